/- A Setup of 1 to 2, with the Addr 0, 1: what the functions on its way answer, whatever is offered. No conditions. -/
import Derived.Test.YtgflghhffmjojaaGreatDoorHf
set_option linter.unusedVariables false
set_option maxRecDepth 100000
set_option maxHeartbeats 4000000
namespace Go.Proofs.YtgflghhffmjojaaGreatDoor
open Go Go.Ab
def V156_A (nb ns nw nz nt : Nat) : List AV := [.int .i64 (nb : Nat),
 .int .i64 (ns : Nat),
 .int .i64 (nw : Nat),
 .int .i64 (nz : Nat),
 .int .i64 (nt : Nat),
 .int .u8 (nb : Nat),
 .str (ub [nb]),
 .int .u8 (ns : Nat),
 .str (ub [ns]),
 .int .u8 (nw : Nat),
 .str (ub [nw]),
 .int .u8 (nz : Nat),
 .str (ub [nz]),
 .int .u8 (nt : Nat),
 .str (ub [nt]),
 .sl (bytesAV (ub [1, 1, nb])) 3 none,
 .sl (bytesAV (ub [1, 1, nb, 2, 1])) 5 none,
 .sl (bytesAV (ub [1, 1, nb, 2, 1, ns])) 6 none,
 .sl (bytesAV (ub [1, 1, nb, 2, 1, ns, 3, 1])) 8 none,
 .sl (bytesAV (ub [1, 1, nb, 2, 1, ns, 3, 1, nw])) 9 none,
 .sl (bytesAV (ub [1, 1, nb, 2, 1, ns, 3, 1, nw, 4, 1])) 11 none,
 .sl (bytesAV (ub [1, 1, nb, 2, 1, ns, 3, 1, nw, 4, 1, nz])) 12 none,
 .sl (bytesAV (ub [1, 1, nb, 2, 1, ns, 3, 1, nw, 4, 1, nz, 5, 1])) 14 none,
 .sl (bytesAV (ub [1, 1, nb, 2, 1, ns, 3, 1, nw, 4, 1, nz, 5, 1, nt])) 15 none,
 .str (ub [1, 1, nb, 2, 1, ns, 3, 1, nw, 4, 1, nz, 5, 1, nt]),
 .str (ub [1, 0, 0, 0, 2, 0, 0, 0, 0, 1, 1, 1, nb, 2, 1, ns, 3, 1, nw, 4, 1, nz, 5, 1, nt])]
def U156_A : List Nt := [.bin .and (lf 0) (.int .i64 1) (.int .i64 1),
 .bin .and (lf 1) (.int .i64 1) (.int .i64 1),
 .bin .geq (lf 0) (.int .i64 1) (.bool true),
 .bin .leq (lf 0) (.int .i64 15) (.bool true),
 .bin .geq (lf 1) (.int .i64 1) (.bool true),
 .bin .leq (lf 1) (.int .i64 7) (.bool true),
 .bin .geq (lf 2) (.int .i64 1) (.bool true),
 .bin .leq (lf 2) (.int .i64 127) (.bool true),
 .bin .geq (lf 3) (.int .i64 1) (.bool true),
 .bin .leq (lf 3) (.int .i64 15) (.bool true),
 .bin .geq (lf 4) (.int .i64 1) (.bool true),
 .bin .leq (lf 4) (.int .i64 7) (.bool true),
 .conv (.toInt .u8) (lf 0) (lf 5),
 .conv .b2s (.sl [lf 5] 1 (some (4, 0, 1))) (lf 6),
 .conv (.toInt .u8) (lf 1) (lf 7),
 .conv .b2s (.sl [lf 7] 1 (some (7, 0, 1))) (lf 8),
 .conv (.toInt .u8) (lf 2) (lf 9),
 .conv .b2s (.sl [lf 9] 1 (some (9, 0, 1))) (lf 10),
 .conv (.toInt .u8) (lf 3) (lf 11),
 .conv .b2s (.sl [lf 11] 1 (some (11, 0, 1))) (lf 12),
 .conv (.toInt .u8) (lf 4) (lf 13),
 .conv .b2s (.sl [lf 13] 1 (some (13, 0, 1))) (lf 14),
 .lens (lf 6) (.int .i64 1),
 .app 1 1 (.sl [.int .u8 1, .int .u8 1] 2 (some (16, 0, 1))) (lf 6) (lf 15),
 .lens (lf 8) (.int .i64 1),
 .app 1 1 (.clo 1000000015 [.hs 1 16 1 0]) (.sl [.int .u8 2, .int .u8 1] 2 none) (lf 16),
 .app 1 1 (.clo 1000000016 [.hs 1 16 2 0]) (lf 8) (lf 17),
 .lens (lf 10) (.int .i64 1),
 .app 1 1 (.clo 1000000017 [.hs 1 16 3 0]) (.sl [.int .u8 3, .int .u8 1] 2 none) (lf 18),
 .app 1 1 (.clo 1000000018 [.hs 1 16 4 0]) (lf 10) (lf 19),
 .lens (lf 12) (.int .i64 1),
 .app 1 1 (.clo 1000000019 [.hs 1 16 5 0]) (.sl [.int .u8 4, .int .u8 1] 2 none) (lf 20),
 .app 1 1 (.clo 1000000020 [.hs 1 16 6 0]) (lf 12) (lf 21),
 .lens (lf 14) (.int .i64 1),
 .app 1 1 (.clo 1000000021 [.hs 1 16 7 0]) (.sl [.int .u8 5, .int .u8 1] 2 none) (lf 22),
 .app 1 1 (.clo 1000000022 [.hs 1 16 8 0]) (lf 14) (lf 23),
 .len (.clo 1000000023 [.hs 1 16 9 0]) (.int .i64 15),
 .conv .b2s (.clo 1000000023 [.hs 1 16 9 0]) (lf 24),
 .bin .add (.str [1, 0, 0, 0, 2, 0, 0, 0, 0, 1]) (lf 24) (lf 25)]
theorem r156_A : (fP 600 156 [.agg [.int .u32 1, .int .u32 2, .int .i64 0, .int .i64 1, lf 0, lf 1, lf 2, lf 3, lf 4]] (FS.none' [.int .i64 1, .int .i64 1, .bool true, .bool true, .bool true, .bool true, .bool true, .bool true, .bool true, .bool true, .bool true, .bool true, lf 5, lf 6, lf 7, lf 8, lf 9, lf 10, lf 11, lf 12, lf 13, lf 14, .int .i64 1, .int .i64 1, lf 15, .int .i64 1, .int .i64 1, lf 16, lf 17, .int .i64 1, .int .i64 1, lf 18, lf 19, .int .i64 1, .int .i64 1, lf 20, lf 21, .int .i64 1, .int .i64 1, lf 22, lf 23, .int .i64 15, lf 24, lf 25])).said U156_A = some (.tup [lf 25, .bool true]) := by kernel_rfl
theorem l156_A {nb ns nw nz nt : Nat} : (V156_A nb ns nw nz nt).all lfOk = true := rfl
theorem u156_A {nb ns nw nz nt : Nat} (h : Off nb ns nw nz nt) : ∀ a ∈ U156_A, NtOk (Sg.of (Lo (V156_A nb ns nw nz nt)) (Lo_ok l156_A)) cxM a :=
  all_cons (by unfold NtOk; exact and1_ok (Nat.lt_of_le_of_lt h.b2 (by decide)) h.bo) <|
  all_cons (by unfold NtOk; exact and1_ok (Nat.lt_of_le_of_lt h.s2 (by decide)) h.so) <|
  all_cons (by unfold NtOk; exact geq_ok h.b1) <|
  all_cons (by unfold NtOk; exact leq_ok h.b2) <|
  all_cons (by unfold NtOk; exact geq_ok h.s1) <|
  all_cons (by unfold NtOk; exact leq_ok h.s2) <|
  all_cons (by unfold NtOk; exact geq_ok h.w1) <|
  all_cons (by unfold NtOk; exact leq_ok h.w2) <|
  all_cons (by unfold NtOk; exact geq_ok h.z1) <|
  all_cons (by unfold NtOk; exact leq_ok h.z2) <|
  all_cons (by unfold NtOk; exact geq_ok h.t1) <|
  all_cons (by unfold NtOk; exact leq_ok h.t2) <|
  all_cons (by unfold NtOk; exact cv (Nat.lt_of_le_of_lt h.b2 (by decide))) <|
  all_cons (by unfold NtOk; exact rfl) <|
  all_cons (by unfold NtOk; exact cv (Nat.lt_of_le_of_lt h.s2 (by decide))) <|
  all_cons (by unfold NtOk; exact rfl) <|
  all_cons (by unfold NtOk; exact cv (Nat.lt_of_le_of_lt h.w2 (by decide))) <|
  all_cons (by unfold NtOk; exact rfl) <|
  all_cons (by unfold NtOk; exact cv (Nat.lt_of_le_of_lt h.z2 (by decide))) <|
  all_cons (by unfold NtOk; exact rfl) <|
  all_cons (by unfold NtOk; exact cv (Nat.lt_of_le_of_lt h.t2 (by decide))) <|
  all_cons (by unfold NtOk; exact rfl) <|
  all_cons (by unfold NtOk; exact ⟨_, rfl, rfl⟩) <|
  all_cons (by unfold NtOk; exact ⟨_, _, _, _, .inr ⟨_, rfl⟩, .inr (.inr ⟨_, rfl, rfl, rfl, rfl⟩), Nat.succ_ne_zero _, rfl, rfl, rfl⟩) <|
  all_cons (by unfold NtOk; exact ⟨_, rfl, rfl⟩) <|
  all_cons (by unfold NtOk; exact ⟨_, _, _, _, .inr ⟨_, rfl⟩, .inr (.inl ⟨_, rfl, rfl⟩), Nat.succ_ne_zero _, rfl, rfl, rfl⟩) <|
  all_cons (by unfold NtOk; exact ⟨_, _, _, _, .inr ⟨_, rfl⟩, .inr (.inr ⟨_, rfl, rfl, rfl, rfl⟩), Nat.succ_ne_zero _, rfl, rfl, rfl⟩) <|
  all_cons (by unfold NtOk; exact ⟨_, rfl, rfl⟩) <|
  all_cons (by unfold NtOk; exact ⟨_, _, _, _, .inr ⟨_, rfl⟩, .inr (.inl ⟨_, rfl, rfl⟩), Nat.succ_ne_zero _, rfl, rfl, rfl⟩) <|
  all_cons (by unfold NtOk; exact ⟨_, _, _, _, .inr ⟨_, rfl⟩, .inr (.inr ⟨_, rfl, rfl, rfl, rfl⟩), Nat.succ_ne_zero _, rfl, rfl, rfl⟩) <|
  all_cons (by unfold NtOk; exact ⟨_, rfl, rfl⟩) <|
  all_cons (by unfold NtOk; exact ⟨_, _, _, _, .inr ⟨_, rfl⟩, .inr (.inl ⟨_, rfl, rfl⟩), Nat.succ_ne_zero _, rfl, rfl, rfl⟩) <|
  all_cons (by unfold NtOk; exact ⟨_, _, _, _, .inr ⟨_, rfl⟩, .inr (.inr ⟨_, rfl, rfl, rfl, rfl⟩), Nat.succ_ne_zero _, rfl, rfl, rfl⟩) <|
  all_cons (by unfold NtOk; exact ⟨_, rfl, rfl⟩) <|
  all_cons (by unfold NtOk; exact ⟨_, _, _, _, .inr ⟨_, rfl⟩, .inr (.inl ⟨_, rfl, rfl⟩), Nat.succ_ne_zero _, rfl, rfl, rfl⟩) <|
  all_cons (by unfold NtOk; exact ⟨_, _, _, _, .inr ⟨_, rfl⟩, .inr (.inr ⟨_, rfl, rfl, rfl, rfl⟩), Nat.succ_ne_zero _, rfl, rfl, rfl⟩) <|
  all_cons (by unfold NtOk; exact ⟨_, _, _, rfl, rfl⟩) <|
  all_cons (by unfold NtOk; exact b2s_ok _ _ rfl _) <|
  all_cons (by unfold NtOk; exact rfl) <|
  all_nil
theorem s156_A {nb ns nw nz nt : Nat} (h : Off nb ns nw nz nt) : hSem 156 [.agg [.int .u32 1, .int .u32 2, .int .i64 0, .int .i64 1, .int .i64 (nb : Nat), .int .i64 (ns : Nat), .int .i64 (nw : Nat), .int .i64 (nz : Nat), .int .i64 (nt : Nat)]] St.nil = some (.tup [.str (ub [1, 0, 0, 0, 2, 0, 0, 0, 0, 1, 1, 1, nb, 2, 1, ns, 3, 1, nw, 4, 1, nz, 5, 1, nt]), .bool true]) :=
  sem_to l156_A r156_A (u156_A h) rfl rfl rfl rfl
def V77_A (nb ns nw nz nt : Nat) : List AV := [.bool false,
 .bool false,
 .bool false,
 .bool false,
 .bool false,
 .bool false,
 .bool false,
 .bool false,
 .bool false,
 .bool false,
 .bool false,
 .bool false,
 .bool false,
 .bool false,
 .bool false,
 .bool false,
 .bool false,
 .bool false,
 .bool false,
 .bool false,
 .bool false,
 .bool false,
 .bool false,
 .bool false,
 .bool false,
 .str (ub [1, 0, 0, 0, 2, 0, 0, 0, 0, 1, 1, 1, nb, 2, 1, ns, 3, 1, nw, 4, 1, nz, 5, 1, nt])]
def U77_A : List Nt := [.lens (lf 25) (.int .i64 25),
 .eqv true (.flat (.many [.i, .i, .b, .i, .i, .i, .i, .b, .s])) (.agg [.int .i64 127, .int .i64 255, .bool true, .int .i64 3, .int .i64 2, .int .i64 0, .int .i64 0, .bool true, lf 25]) (.agg [.int .i64 127, .int .i64 255, .bool true, .int .i64 3, .int .i64 2, .int .i64 0, .int .i64 0, .bool true, lf 25]) (.bool false)]
theorem r77_A : (fP 600 77 [.agg [.int .i64 127, .int .i64 255, .bool true, .int .i64 3, .int .i64 2, .int .i64 0, .int .i64 0, .bool true, lf 25]] (FS.none' [.int .i64 25, .int .i64 25, .bool false])).said U77_A = some (.tup [.agg [.int .i64 127, .int .i64 255, .bool true, .iface 193 (.agg [.int .i64 2, .bool true]), lf 25], .bool true]) := by kernel_rfl
theorem l77_A {nb ns nw nz nt : Nat} : (V77_A nb ns nw nz nt).all lfOk = true := rfl
theorem u77_A {nb ns nw nz nt : Nat} (h : Off nb ns nw nz nt) : ∀ a ∈ U77_A, NtOk (Sg.of (Lo (V77_A nb ns nw nz nt)) (Lo_ok l77_A)) cxM a :=
  all_cons (by unfold NtOk; exact ⟨_, rfl, rfl⟩) <|
  all_cons (by unfold NtOk; exact ⟨true, by show eqAV (.flat (.many [.i, .i, .b, .i, .i, .i, .i, .b, .s])) (.agg [.int .i64 127, .int .i64 255, .bool true, .int .i64 3, .int .i64 2, .int .i64 0, .int .i64 0, .bool true, .str (ub [1, 0, 0, 0, 2, 0, 0, 0, 0, 1, 1, 1, nb, 2, 1, ns, 3, 1, nw, 4, 1, nz, 5, 1, nt])]) (.agg [.int .i64 127, .int .i64 255, .bool true, .int .i64 3, .int .i64 2, .int .i64 0, .int .i64 0, .bool true, .str (ub [1, 0, 0, 0, 2, 0, 0, 0, 0, 1, 1, 1, nb, 2, 1, ns, 3, 1, nw, 4, 1, nz, 5, 1, nt])]) = some true; simp [eqAV, eqFl, eqScL, eqSc], rfl⟩) <|
  all_nil
theorem s77_A {nb ns nw nz nt : Nat} (h : Off nb ns nw nz nt) : hSem 77 [.agg [.int .i64 127, .int .i64 255, .bool true, .int .i64 3, .int .i64 2, .int .i64 0, .int .i64 0, .bool true, .str (ub [1, 0, 0, 0, 2, 0, 0, 0, 0, 1, 1, 1, nb, 2, 1, ns, 3, 1, nw, 4, 1, nz, 5, 1, nt])]] St.nil = some (.tup [.agg [.int .i64 127, .int .i64 255, .bool true, .iface 193 (.agg [.int .i64 2, .bool true]), .str (ub [1, 0, 0, 0, 2, 0, 0, 0, 0, 1, 1, 1, nb, 2, 1, ns, 3, 1, nw, 4, 1, nz, 5, 1, nt])], .bool true]) :=
  sem_to l77_A r77_A (u77_A h) rfl rfl rfl rfl
def V78_A (nb ns nw nz nt : Nat) : List AV := [.bool false,
 .bool false,
 .bool false,
 .bool false,
 .bool false,
 .bool false,
 .bool false,
 .bool false,
 .bool false,
 .bool false,
 .bool false,
 .bool false,
 .bool false,
 .bool false,
 .bool false,
 .bool false,
 .bool false,
 .bool false,
 .bool false,
 .bool false,
 .bool false,
 .bool false,
 .bool false,
 .bool false,
 .bool false,
 .str (ub [1, 0, 0, 0, 2, 0, 0, 0, 0, 1, 1, 1, nb, 2, 1, ns, 3, 1, nw, 4, 1, nz, 5, 1, nt]),
 .sl (bytesAV (ub [255, 255, 147, 1, 0, 0, 0, 2, 0, 0, 0, 0, 1, 1, 1, nb, 2, 1, ns, 3, 1, nw, 4, 1, nz, 5, 1, nt])) 28 none]
def U78_A : List Nt := [.lens (lf 25) (.int .i64 25),
 .app 1 1 (.sl [.int .u8 255, .int .u8 255, .int .u8 147] 3 (some (9, 0, 1))) (lf 25) (lf 26)]
theorem r78_A : (fP 600 78 [.agg [.int .i64 127, .int .i64 255, .bool true, .iface 193 (.agg [.int .i64 2, .bool true]), lf 25]] (FS.none' [.int .i64 25, lf 26])).said U78_A = some (.tup [.clo 1000000026 [.hs 1 9 1 0], .bool true]) := by kernel_rfl
theorem l78_A {nb ns nw nz nt : Nat} : (V78_A nb ns nw nz nt).all lfOk = true := rfl
theorem u78_A {nb ns nw nz nt : Nat} (h : Off nb ns nw nz nt) : ∀ a ∈ U78_A, NtOk (Sg.of (Lo (V78_A nb ns nw nz nt)) (Lo_ok l78_A)) cxM a :=
  all_cons (by unfold NtOk; exact ⟨_, rfl, rfl⟩) <|
  all_cons (by unfold NtOk; exact ⟨_, _, _, _, .inr ⟨_, rfl⟩, .inr (.inr ⟨_, rfl, rfl, rfl, rfl⟩), Nat.succ_ne_zero _, rfl, rfl, rfl⟩) <|
  all_nil
theorem s78_A {nb ns nw nz nt : Nat} (h : Off nb ns nw nz nt) : hSem 78 [.agg [.int .i64 127, .int .i64 255, .bool true, .iface 193 (.agg [.int .i64 2, .bool true]), .str (ub [1, 0, 0, 0, 2, 0, 0, 0, 0, 1, 1, 1, nb, 2, 1, ns, 3, 1, nw, 4, 1, nz, 5, 1, nt])]] St.nil = some (.tup [.sl (bytesAV (ub [255, 255, 147, 1, 0, 0, 0, 2, 0, 0, 0, 0, 1, 1, 1, nb, 2, 1, ns, 3, 1, nw, 4, 1, nz, 5, 1, nt])) 28 none, .bool true]) :=
  sem_to l78_A r78_A (u78_A h) rfl rfl rfl rfl
def V72_A (nb ns nw nz nt : Nat) : List AV := [.bool false,
 .bool false,
 .bool false,
 .bool false,
 .bool false,
 .bool false,
 .bool false,
 .bool false,
 .bool false,
 .bool false,
 .bool false,
 .bool false,
 .bool false,
 .bool false,
 .bool false,
 .bool false,
 .bool false,
 .bool false,
 .bool false,
 .bool false,
 .bool false,
 .bool false,
 .bool false,
 .bool false,
 .bool false,
 .str (ub [1, 0, 0, 0, 2, 0, 0, 0, 0, 1, 1, 1, nb, 2, 1, ns, 3, 1, nw, 4, 1, nz, 5, 1, nt])]
def U72_A : List Nt := [.lens (lf 25) (.int .i64 25)]
theorem r72_A : (fP 600 72 [.agg [.int .i64 127, .int .i64 255, .bool true, .iface 193 (.agg [.int .i64 2, .bool true]), lf 25]] (FS.none' [.int .i64 25])).said U72_A = some (.agg [.int .i64 127, .int .i64 255, .bool true, .int .i64 3, .int .i64 2, .int .i64 0, .int .i64 0, .bool true, lf 25]) := by kernel_rfl
theorem l72_A {nb ns nw nz nt : Nat} : (V72_A nb ns nw nz nt).all lfOk = true := rfl
theorem u72_A {nb ns nw nz nt : Nat} (h : Off nb ns nw nz nt) : ∀ a ∈ U72_A, NtOk (Sg.of (Lo (V72_A nb ns nw nz nt)) (Lo_ok l72_A)) cxM a :=
  all_cons (by unfold NtOk; exact ⟨_, rfl, rfl⟩) <|
  all_nil
theorem s72_A {nb ns nw nz nt : Nat} (h : Off nb ns nw nz nt) : hSem 72 [.agg [.int .i64 127, .int .i64 255, .bool true, .iface 193 (.agg [.int .i64 2, .bool true]), .str (ub [1, 0, 0, 0, 2, 0, 0, 0, 0, 1, 1, 1, nb, 2, 1, ns, 3, 1, nw, 4, 1, nz, 5, 1, nt])]] St.nil = some (.agg [.int .i64 127, .int .i64 255, .bool true, .int .i64 3, .int .i64 2, .int .i64 0, .int .i64 0, .bool true, .str (ub [1, 0, 0, 0, 2, 0, 0, 0, 0, 1, 1, 1, nb, 2, 1, ns, 3, 1, nw, 4, 1, nz, 5, 1, nt])]) :=
  sem_to l72_A r72_A (u72_A h) rfl rfl rfl rfl
def V70_A (nb ns nw nz nt : Nat) : List AV := [.bool false,
 .bool false,
 .bool false,
 .bool false,
 .bool false,
 .bool false,
 .bool false,
 .bool false,
 .bool false,
 .bool false,
 .bool false,
 .bool false,
 .bool false,
 .bool false,
 .bool false,
 .bool false,
 .bool false,
 .bool false,
 .bool false,
 .bool false,
 .bool false,
 .bool false,
 .bool false,
 .bool false,
 .bool false,
 .str (ub [1, 0, 0, 0, 2, 0, 0, 0, 0, 1, 1, 1, nb, 2, 1, ns, 3, 1, nw, 4, 1, nz, 5, 1, nt]),
 .sl (bytesAV (ub [255, 255, 147, 1, 0, 0, 0, 2, 0, 0, 0, 0, 1, 1, 1, nb, 2, 1, ns, 3, 1, nw, 4, 1, nz, 5, 1, nt])) 28 none,
 .rp (bytesAV (ub [147, 1, 0, 0, 0, 2, 0, 0, 0, 0, 1, 1, 1, nb, 2, 1, ns, 3, 1, nw, 4, 1, nz, 5, 1, nt])),
 .rp (bytesAV (ub [255, 255, 147, 1, 0, 0, 0, 2, 0, 0, 0, 0, 1, 1, 1, nb, 2, 1, ns, 3, 1, nw, 4, 1, nz, 5, 1, nt])),
 .rp (bytesAV (ub [255, 147, 1, 0, 0, 0, 2, 0, 0, 0, 0, 1, 1, 1, nb, 2, 1, ns, 3, 1, nw, 4, 1, nz, 5, 1, nt])),
 .sl (bytesAV (ub [1, 0, 0, 0, 2, 0, 0, 0, 0, 1, 1, 1, nb, 2, 1, ns, 3, 1, nw, 4, 1, nz, 5, 1, nt])) 25 none]
def U70_A : List Nt := [.len (lf 26) (.int .i64 28),
 .ixa 1 (lf 26) (.int .i64 2) (lf 27),
 .load none (lf 27) (.int .u8 147),
 .ixa 1 (lf 26) (.int .i64 0) (lf 28),
 .load none (lf 28) (.int .u8 255),
 .ixa 1 (lf 26) (.int .i64 1) (lf 29),
 .load none (lf 29) (.int .u8 255),
 .slc 1 (lf 26) (some (.int .i64 3)) none (lf 30),
 .conv .b2s (lf 30) (lf 25),
 .lens (lf 25) (.int .i64 25)]
theorem r70_A : (fP 600 70 [lf 26] (FS.none' [.int .i64 28, lf 27, .int .u8 147, lf 28, .int .u8 255, lf 29, .int .u8 255, lf 28, .int .u8 255, lf 30, lf 25, .int .i64 25])).said U70_A = some (.tup [.agg [.int .i64 127, .int .i64 255, .bool true, .iface 193 (.agg [.int .i64 2, .bool true]), lf 25], .bool true]) := by kernel_rfl
theorem l70_A {nb ns nw nz nt : Nat} : (V70_A nb ns nw nz nt).all lfOk = true := rfl
theorem u70_A {nb ns nw nz nt : Nat} (h : Off nb ns nw nz nt) : ∀ a ∈ U70_A, NtOk (Sg.of (Lo (V70_A nb ns nw nz nt)) (Lo_ok l70_A)) cxM a :=
  all_cons (by unfold NtOk; exact ⟨_, _, _, rfl, rfl⟩) <|
  all_cons (by unfold NtOk; exact ⟨_, _, _, 2, rfl, rfl, rfl⟩) <|
  all_cons (by unfold NtOk; exact ⟨_, rfl, rfl⟩) <|
  all_cons (by unfold NtOk; exact ⟨_, _, _, 0, rfl, rfl, rfl⟩) <|
  all_cons (by unfold NtOk; exact ⟨_, rfl, rfl⟩) <|
  all_cons (by unfold NtOk; exact ⟨_, _, _, 1, rfl, rfl, rfl⟩) <|
  all_cons (by unfold NtOk; exact ⟨_, rfl, rfl⟩) <|
  all_cons (by unfold NtOk; exact rfl) <|
  all_cons (by unfold NtOk; exact b2s_ok _ _ rfl _) <|
  all_cons (by unfold NtOk; exact ⟨_, rfl, rfl⟩) <|
  all_nil
theorem s70_A {nb ns nw nz nt : Nat} (h : Off nb ns nw nz nt) : hSem 70 [.sl (bytesAV (ub [255, 255, 147, 1, 0, 0, 0, 2, 0, 0, 0, 0, 1, 1, 1, nb, 2, 1, ns, 3, 1, nw, 4, 1, nz, 5, 1, nt])) 28 none] St.nil = some (.tup [.agg [.int .i64 127, .int .i64 255, .bool true, .iface 193 (.agg [.int .i64 2, .bool true]), .str (ub [1, 0, 0, 0, 2, 0, 0, 0, 0, 1, 1, 1, nb, 2, 1, ns, 3, 1, nw, 4, 1, nz, 5, 1, nt])], .bool true]) :=
  sem_to l70_A r70_A (u70_A h) rfl rfl rfl rfl
def V143_A (nb ns nw nz nt : Nat) : List AV := [.int .i64 (nb : Nat),
 .int .i64 (ns : Nat),
 .int .i64 (nw : Nat),
 .int .i64 (nz : Nat),
 .int .i64 (nt : Nat),
 .int .u8 (nb : Nat),
 .str (ub [nb]),
 .int .u8 (ns : Nat),
 .str (ub [ns]),
 .int .u8 (nw : Nat),
 .str (ub [nw]),
 .int .u8 (nz : Nat),
 .str (ub [nz]),
 .int .u8 (nt : Nat),
 .str (ub [nt]),
 .bool false,
 .bool false,
 .bool false,
 .bool false,
 .bool false,
 .bool false,
 .bool false,
 .bool false,
 .bool false,
 .str (ub [1, 1, nb, 2, 1, ns, 3, 1, nw, 4, 1, nz, 5, 1, nt]),
 .str (ub [1, 0, 0, 0, 2, 0, 0, 0, 0, 1, 1, 1, nb, 2, 1, ns, 3, 1, nw, 4, 1, nz, 5, 1, nt]),
 .bool false,
 .bool false,
 .bool false,
 .bool false,
 .bool false,
 .str (ub [2, 0, 0, 0, 0, 1, 1, 1, nb, 2, 1, ns, 3, 1, nw, 4, 1, nz, 5, 1, nt]),
 .str (ub [2, 1, ns, 3, 1, nw, 4, 1, nz, 5, 1, nt]),
 .str (ub [3, 1, nw, 4, 1, nz, 5, 1, nt]),
 .str (ub [4, 1, nz, 5, 1, nt]),
 .str (ub [5, 1, nt])]
def U143_A : List Nt := [.lens (lf 25) (.int .i64 25),
 .ixs (lf 25) (.int .i64 0) (.int .u8 1),
 .ixs (lf 25) (.int .i64 1) (.int .u8 0),
 .ixs (lf 25) (.int .i64 2) (.int .u8 0),
 .ixs (lf 25) (.int .i64 3) (.int .u8 0),
 .sls (lf 25) (some (.int .i64 4)) none (lf 31),
 .ixs (lf 31) (.int .i64 0) (.int .u8 2),
 .ixs (lf 31) (.int .i64 1) (.int .u8 0),
 .ixs (lf 31) (.int .i64 2) (.int .u8 0),
 .ixs (lf 31) (.int .i64 3) (.int .u8 0),
 .ixs (lf 25) (.int .i64 8) (.int .u8 0),
 .ixs (lf 25) (.int .i64 9) (.int .u8 1),
 .sls (lf 25) (some (.int .i64 10)) none (lf 24),
 .lens (lf 24) (.int .i64 15),
 .bin .neq (lf 24) (.str []) (.bool true),
 .ixs (lf 24) (.int .i64 1) (.int .u8 1),
 .ixs (lf 24) (.int .i64 0) (.int .u8 1),
 .sls (lf 24) (some (.int .i64 2)) (some (.int .i64 3)) (lf 6),
 .sls (lf 24) (some (.int .i64 3)) none (lf 32),
 .bin .neq (lf 32) (.str []) (.bool true),
 .lens (lf 32) (.int .i64 12),
 .ixs (lf 32) (.int .i64 1) (.int .u8 1),
 .ixs (lf 32) (.int .i64 0) (.int .u8 2),
 .sls (lf 32) (some (.int .i64 2)) (some (.int .i64 3)) (lf 8),
 .sls (lf 32) (some (.int .i64 3)) none (lf 33),
 .bin .neq (lf 33) (.str []) (.bool true),
 .lens (lf 33) (.int .i64 9),
 .ixs (lf 33) (.int .i64 1) (.int .u8 1),
 .ixs (lf 33) (.int .i64 0) (.int .u8 3),
 .sls (lf 33) (some (.int .i64 2)) (some (.int .i64 3)) (lf 10),
 .sls (lf 33) (some (.int .i64 3)) none (lf 34),
 .bin .neq (lf 34) (.str []) (.bool true),
 .lens (lf 34) (.int .i64 6),
 .ixs (lf 34) (.int .i64 1) (.int .u8 1),
 .ixs (lf 34) (.int .i64 0) (.int .u8 4),
 .sls (lf 34) (some (.int .i64 2)) (some (.int .i64 3)) (lf 12),
 .sls (lf 34) (some (.int .i64 3)) none (lf 35),
 .bin .neq (lf 35) (.str []) (.bool true),
 .lens (lf 35) (.int .i64 3),
 .ixs (lf 35) (.int .i64 1) (.int .u8 1),
 .ixs (lf 35) (.int .i64 0) (.int .u8 5),
 .sls (lf 35) (some (.int .i64 2)) (some (.int .i64 3)) (lf 14),
 .sls (lf 35) (some (.int .i64 3)) none (.str []),
 .lens (lf 6) (.int .i64 1),
 .ixs (lf 6) (.int .i64 0) (lf 5),
 .conv (.toInt .i64) (lf 5) (lf 0),
 .lens (lf 8) (.int .i64 1),
 .ixs (lf 8) (.int .i64 0) (lf 7),
 .conv (.toInt .i64) (lf 7) (lf 1),
 .lens (lf 10) (.int .i64 1),
 .ixs (lf 10) (.int .i64 0) (lf 9),
 .conv (.toInt .i64) (lf 9) (lf 2),
 .lens (lf 12) (.int .i64 1),
 .ixs (lf 12) (.int .i64 0) (lf 11),
 .conv (.toInt .i64) (lf 11) (lf 3),
 .lens (lf 14) (.int .i64 1),
 .ixs (lf 14) (.int .i64 0) (lf 13),
 .conv (.toInt .i64) (lf 13) (lf 4),
 .bin .and (lf 0) (.int .i64 1) (.int .i64 1),
 .bin .and (lf 1) (.int .i64 1) (.int .i64 1),
 .bin .geq (lf 0) (.int .i64 1) (.bool true),
 .bin .leq (lf 0) (.int .i64 15) (.bool true),
 .bin .geq (lf 1) (.int .i64 1) (.bool true),
 .bin .leq (lf 1) (.int .i64 7) (.bool true),
 .bin .geq (lf 2) (.int .i64 1) (.bool true),
 .bin .leq (lf 2) (.int .i64 127) (.bool true),
 .bin .geq (lf 3) (.int .i64 1) (.bool true),
 .bin .leq (lf 3) (.int .i64 15) (.bool true),
 .bin .geq (lf 4) (.int .i64 1) (.bool true),
 .bin .leq (lf 4) (.int .i64 7) (.bool true)]
theorem r143_A : (fP 600 143 [lf 25] (FS.none' [.int .i64 25, .int .u8 1, .int .u8 0, .int .u8 0, .int .u8 0, lf 31, .int .u8 2, .int .u8 0, .int .u8 0, .int .u8 0, .int .u8 0, .int .u8 1, lf 24, .int .i64 15, .bool true, .int .i64 15, .int .u8 1, .int .i64 15, .int .u8 1, .int .u8 1, .int .u8 1, lf 6, lf 32, .bool true, .int .i64 12, .int .u8 1, .int .i64 12, .int .u8 1, .int .u8 1, .int .u8 2, lf 8, lf 33, .bool true, .int .i64 9, .int .u8 1, .int .i64 9, .int .u8 1, .int .u8 1, .int .u8 3, lf 10, lf 34, .bool true, .int .i64 6, .int .u8 1, .int .i64 6, .int .u8 1, .int .u8 1, .int .u8 4, lf 12, lf 35, .bool true, .int .i64 3, .int .u8 1, .int .i64 3, .int .u8 1, .int .u8 1, .int .u8 5, lf 14, .str [], .int .i64 1, lf 5, lf 0, .int .i64 1, lf 7, lf 1, .int .i64 1, lf 9, lf 2, .int .i64 1, lf 11, lf 3, .int .i64 1, lf 13, lf 4, .int .i64 1, .int .i64 1, .bool true, .bool true, .bool true, .bool true, .bool true, .bool true, .bool true, .bool true, .bool true, .bool true])).said U143_A = some (.tup [.agg [.int .u32 1, .int .u32 2, .int .i64 0, .int .i64 1, lf 0, lf 1, lf 2, lf 3, lf 4], .bool true]) := by kernel_rfl
theorem l143_A {nb ns nw nz nt : Nat} : (V143_A nb ns nw nz nt).all lfOk = true := rfl
theorem u143_A {nb ns nw nz nt : Nat} (h : Off nb ns nw nz nt) : ∀ a ∈ U143_A, NtOk (Sg.of (Lo (V143_A nb ns nw nz nt)) (Lo_ok l143_A)) cxM a :=
  all_cons (by unfold NtOk; exact ⟨_, rfl, rfl⟩) <|
  all_cons (by unfold NtOk; exact ⟨_, 0, _, rfl, rfl, rfl, rfl⟩) <|
  all_cons (by unfold NtOk; exact ⟨_, 1, _, rfl, rfl, rfl, rfl⟩) <|
  all_cons (by unfold NtOk; exact ⟨_, 2, _, rfl, rfl, rfl, rfl⟩) <|
  all_cons (by unfold NtOk; exact ⟨_, 3, _, rfl, rfl, rfl, rfl⟩) <|
  all_cons (by unfold NtOk; exact rfl) <|
  all_cons (by unfold NtOk; exact ⟨_, 0, _, rfl, rfl, rfl, rfl⟩) <|
  all_cons (by unfold NtOk; exact ⟨_, 1, _, rfl, rfl, rfl, rfl⟩) <|
  all_cons (by unfold NtOk; exact ⟨_, 2, _, rfl, rfl, rfl, rfl⟩) <|
  all_cons (by unfold NtOk; exact ⟨_, 3, _, rfl, rfl, rfl, rfl⟩) <|
  all_cons (by unfold NtOk; exact ⟨_, 8, _, rfl, rfl, rfl, rfl⟩) <|
  all_cons (by unfold NtOk; exact ⟨_, 9, _, rfl, rfl, rfl, rfl⟩) <|
  all_cons (by unfold NtOk; exact rfl) <|
  all_cons (by unfold NtOk; exact ⟨_, rfl, rfl⟩) <|
  all_cons (by unfold NtOk; exact rfl) <|
  all_cons (by unfold NtOk; exact ⟨_, 1, _, rfl, rfl, rfl, rfl⟩) <|
  all_cons (by unfold NtOk; exact ⟨_, 0, _, rfl, rfl, rfl, rfl⟩) <|
  all_cons (by unfold NtOk; exact rfl) <|
  all_cons (by unfold NtOk; exact rfl) <|
  all_cons (by unfold NtOk; exact rfl) <|
  all_cons (by unfold NtOk; exact ⟨_, rfl, rfl⟩) <|
  all_cons (by unfold NtOk; exact ⟨_, 1, _, rfl, rfl, rfl, rfl⟩) <|
  all_cons (by unfold NtOk; exact ⟨_, 0, _, rfl, rfl, rfl, rfl⟩) <|
  all_cons (by unfold NtOk; exact rfl) <|
  all_cons (by unfold NtOk; exact rfl) <|
  all_cons (by unfold NtOk; exact rfl) <|
  all_cons (by unfold NtOk; exact ⟨_, rfl, rfl⟩) <|
  all_cons (by unfold NtOk; exact ⟨_, 1, _, rfl, rfl, rfl, rfl⟩) <|
  all_cons (by unfold NtOk; exact ⟨_, 0, _, rfl, rfl, rfl, rfl⟩) <|
  all_cons (by unfold NtOk; exact rfl) <|
  all_cons (by unfold NtOk; exact rfl) <|
  all_cons (by unfold NtOk; exact rfl) <|
  all_cons (by unfold NtOk; exact ⟨_, rfl, rfl⟩) <|
  all_cons (by unfold NtOk; exact ⟨_, 1, _, rfl, rfl, rfl, rfl⟩) <|
  all_cons (by unfold NtOk; exact ⟨_, 0, _, rfl, rfl, rfl, rfl⟩) <|
  all_cons (by unfold NtOk; exact rfl) <|
  all_cons (by unfold NtOk; exact rfl) <|
  all_cons (by unfold NtOk; exact rfl) <|
  all_cons (by unfold NtOk; exact ⟨_, rfl, rfl⟩) <|
  all_cons (by unfold NtOk; exact ⟨_, 1, _, rfl, rfl, rfl, rfl⟩) <|
  all_cons (by unfold NtOk; exact ⟨_, 0, _, rfl, rfl, rfl, rfl⟩) <|
  all_cons (by unfold NtOk; exact rfl) <|
  all_cons (by unfold NtOk; exact rfl) <|
  all_cons (by unfold NtOk; exact ⟨_, rfl, rfl⟩) <|
  all_cons (by unfold NtOk; exact ⟨_, 0, _, rfl, rfl, rfl, i8 (Nat.lt_of_le_of_lt h.b2 (by decide))⟩) <|
  all_cons (by unfold NtOk; exact cv (Nat.lt_of_le_of_lt h.b2 (by decide))) <|
  all_cons (by unfold NtOk; exact ⟨_, rfl, rfl⟩) <|
  all_cons (by unfold NtOk; exact ⟨_, 0, _, rfl, rfl, rfl, i8 (Nat.lt_of_le_of_lt h.s2 (by decide))⟩) <|
  all_cons (by unfold NtOk; exact cv (Nat.lt_of_le_of_lt h.s2 (by decide))) <|
  all_cons (by unfold NtOk; exact ⟨_, rfl, rfl⟩) <|
  all_cons (by unfold NtOk; exact ⟨_, 0, _, rfl, rfl, rfl, i8 (Nat.lt_of_le_of_lt h.w2 (by decide))⟩) <|
  all_cons (by unfold NtOk; exact cv (Nat.lt_of_le_of_lt h.w2 (by decide))) <|
  all_cons (by unfold NtOk; exact ⟨_, rfl, rfl⟩) <|
  all_cons (by unfold NtOk; exact ⟨_, 0, _, rfl, rfl, rfl, i8 (Nat.lt_of_le_of_lt h.z2 (by decide))⟩) <|
  all_cons (by unfold NtOk; exact cv (Nat.lt_of_le_of_lt h.z2 (by decide))) <|
  all_cons (by unfold NtOk; exact ⟨_, rfl, rfl⟩) <|
  all_cons (by unfold NtOk; exact ⟨_, 0, _, rfl, rfl, rfl, i8 (Nat.lt_of_le_of_lt h.t2 (by decide))⟩) <|
  all_cons (by unfold NtOk; exact cv (Nat.lt_of_le_of_lt h.t2 (by decide))) <|
  all_cons (by unfold NtOk; exact and1_ok (Nat.lt_of_le_of_lt h.b2 (by decide)) h.bo) <|
  all_cons (by unfold NtOk; exact and1_ok (Nat.lt_of_le_of_lt h.s2 (by decide)) h.so) <|
  all_cons (by unfold NtOk; exact geq_ok h.b1) <|
  all_cons (by unfold NtOk; exact leq_ok h.b2) <|
  all_cons (by unfold NtOk; exact geq_ok h.s1) <|
  all_cons (by unfold NtOk; exact leq_ok h.s2) <|
  all_cons (by unfold NtOk; exact geq_ok h.w1) <|
  all_cons (by unfold NtOk; exact leq_ok h.w2) <|
  all_cons (by unfold NtOk; exact geq_ok h.z1) <|
  all_cons (by unfold NtOk; exact leq_ok h.z2) <|
  all_cons (by unfold NtOk; exact geq_ok h.t1) <|
  all_cons (by unfold NtOk; exact leq_ok h.t2) <|
  all_nil
theorem s143_A {nb ns nw nz nt : Nat} (h : Off nb ns nw nz nt) : hSem 143 [.str (ub [1, 0, 0, 0, 2, 0, 0, 0, 0, 1, 1, 1, nb, 2, 1, ns, 3, 1, nw, 4, 1, nz, 5, 1, nt])] St.nil = some (.tup [.agg [.int .u32 1, .int .u32 2, .int .i64 0, .int .i64 1, .int .i64 (nb : Nat), .int .i64 (ns : Nat), .int .i64 (nw : Nat), .int .i64 (nz : Nat), .int .i64 (nt : Nat)], .bool true]) :=
  sem_to l143_A r143_A (u143_A h) rfl rfl rfl rfl
def V104_A (nb ns nw nz nt : Nat) : List AV := [.bool false,
 .bool false,
 .bool false,
 .bool false,
 .bool false,
 .bool false,
 .bool false,
 .bool false,
 .bool false,
 .bool false,
 .bool false,
 .bool false,
 .bool false,
 .bool false,
 .bool false,
 .bool false,
 .bool false,
 .bool false,
 .bool false,
 .bool false,
 .bool false,
 .bool false,
 .bool false,
 .bool false,
 .bool false,
 .str (ub [1, 0, 0, 0, 2, 0, 0, 0, 0, 1, 1, 1, nb, 2, 1, ns, 3, 1, nw, 4, 1, nz, 5, 1, nt]),
 .bool false,
 .bool false,
 .bool false,
 .bool false,
 .bool false,
 .str (ub [2, 0, 0, 0, 0, 1, 1, 1, nb, 2, 1, ns, 3, 1, nw, 4, 1, nz, 5, 1, nt]),
 .bool false,
 .bool false,
 .bool false,
 .bool false,
 .str (ub [1, nb, 2, 1, ns, 3, 1, nw, 4, 1, nz, 5, 1, nt])]
def U104_A : List Nt := [.lens (lf 25) (.int .i64 25),
 .ixs (lf 25) (.int .i64 0) (.int .u8 1),
 .ixs (lf 25) (.int .i64 1) (.int .u8 0),
 .ixs (lf 25) (.int .i64 2) (.int .u8 0),
 .ixs (lf 25) (.int .i64 3) (.int .u8 0),
 .sls (lf 25) (some (.int .i64 4)) none (lf 31),
 .ixs (lf 31) (.int .i64 0) (.int .u8 2),
 .ixs (lf 31) (.int .i64 1) (.int .u8 0),
 .ixs (lf 31) (.int .i64 2) (.int .u8 0),
 .ixs (lf 31) (.int .i64 3) (.int .u8 0),
 .ixs (lf 25) (.int .i64 8) (.int .u8 0),
 .ixs (lf 25) (.int .i64 9) (.int .u8 1),
 .ixs (lf 25) (.int .i64 10) (.int .u8 1),
 .sls (lf 25) (some (.int .i64 11)) none (lf 36)]
theorem r104_A : (fP 600 104 [lf 25] (FS.none' [.int .i64 25, .int .u8 1, .int .u8 0, .int .u8 0, .int .u8 0, lf 31, .int .u8 2, .int .u8 0, .int .u8 0, .int .u8 0, .int .u8 0, .int .u8 1, .int .u8 1, lf 36])).said U104_A = some (.tup [.agg [.int .u32 0, .int .u32 0, .int .i64 0, .int .i64 0, .bool false, .str []], .bool false]) := by kernel_rfl
theorem l104_A {nb ns nw nz nt : Nat} : (V104_A nb ns nw nz nt).all lfOk = true := rfl
theorem u104_A {nb ns nw nz nt : Nat} (h : Off nb ns nw nz nt) : ∀ a ∈ U104_A, NtOk (Sg.of (Lo (V104_A nb ns nw nz nt)) (Lo_ok l104_A)) cxM a :=
  all_cons (by unfold NtOk; exact ⟨_, rfl, rfl⟩) <|
  all_cons (by unfold NtOk; exact ⟨_, 0, _, rfl, rfl, rfl, rfl⟩) <|
  all_cons (by unfold NtOk; exact ⟨_, 1, _, rfl, rfl, rfl, rfl⟩) <|
  all_cons (by unfold NtOk; exact ⟨_, 2, _, rfl, rfl, rfl, rfl⟩) <|
  all_cons (by unfold NtOk; exact ⟨_, 3, _, rfl, rfl, rfl, rfl⟩) <|
  all_cons (by unfold NtOk; exact rfl) <|
  all_cons (by unfold NtOk; exact ⟨_, 0, _, rfl, rfl, rfl, rfl⟩) <|
  all_cons (by unfold NtOk; exact ⟨_, 1, _, rfl, rfl, rfl, rfl⟩) <|
  all_cons (by unfold NtOk; exact ⟨_, 2, _, rfl, rfl, rfl, rfl⟩) <|
  all_cons (by unfold NtOk; exact ⟨_, 3, _, rfl, rfl, rfl, rfl⟩) <|
  all_cons (by unfold NtOk; exact ⟨_, 8, _, rfl, rfl, rfl, rfl⟩) <|
  all_cons (by unfold NtOk; exact ⟨_, 9, _, rfl, rfl, rfl, rfl⟩) <|
  all_cons (by unfold NtOk; exact ⟨_, 10, _, rfl, rfl, rfl, rfl⟩) <|
  all_cons (by unfold NtOk; exact rfl) <|
  all_nil
theorem s104_A {nb ns nw nz nt : Nat} (h : Off nb ns nw nz nt) : hSem 104 [.str (ub [1, 0, 0, 0, 2, 0, 0, 0, 0, 1, 1, 1, nb, 2, 1, ns, 3, 1, nw, 4, 1, nz, 5, 1, nt])] St.nil = some (.tup [.agg [.int .u32 0, .int .u32 0, .int .i64 0, .int .i64 0, .bool false, .str []], .bool false]) :=
  sem_to l104_A r104_A (u104_A h) rfl rfl rfl rfl
end Go.Proofs.YtgflghhffmjojaaGreatDoor
set_option linter.unusedVariables false
set_option maxRecDepth 100000
set_option maxHeartbeats 4000000
namespace Go.Proofs.YtgflghhffmjojaaGreatDoor
open Go Go.Ab
def V156_B (nb ns nw nz nt : Nat) : List AV := [.int .i64 (nb : Nat),
 .int .i64 (ns : Nat),
 .int .i64 (nw : Nat),
 .int .i64 (nz : Nat),
 .int .i64 (nt : Nat),
 .int .u8 (nb : Nat),
 .str (ub [nb]),
 .int .u8 (ns : Nat),
 .str (ub [ns]),
 .int .u8 (nw : Nat),
 .str (ub [nw]),
 .int .u8 (nz : Nat),
 .str (ub [nz]),
 .int .u8 (nt : Nat),
 .str (ub [nt]),
 .sl (bytesAV (ub [1, 1, nb])) 3 none,
 .sl (bytesAV (ub [1, 1, nb, 2, 1])) 5 none,
 .sl (bytesAV (ub [1, 1, nb, 2, 1, ns])) 6 none,
 .sl (bytesAV (ub [1, 1, nb, 2, 1, ns, 3, 1])) 8 none,
 .sl (bytesAV (ub [1, 1, nb, 2, 1, ns, 3, 1, nw])) 9 none,
 .sl (bytesAV (ub [1, 1, nb, 2, 1, ns, 3, 1, nw, 4, 1])) 11 none,
 .sl (bytesAV (ub [1, 1, nb, 2, 1, ns, 3, 1, nw, 4, 1, nz])) 12 none,
 .sl (bytesAV (ub [1, 1, nb, 2, 1, ns, 3, 1, nw, 4, 1, nz, 5, 1])) 14 none,
 .sl (bytesAV (ub [1, 1, nb, 2, 1, ns, 3, 1, nw, 4, 1, nz, 5, 1, nt])) 15 none,
 .str (ub [1, 1, nb, 2, 1, ns, 3, 1, nw, 4, 1, nz, 5, 1, nt]),
 .str (ub [2, 0, 0, 0, 1, 0, 0, 0, 0, 1, 1, 1, nb, 2, 1, ns, 3, 1, nw, 4, 1, nz, 5, 1, nt])]
def U156_B : List Nt := [.bin .and (lf 0) (.int .i64 1) (.int .i64 1),
 .bin .and (lf 1) (.int .i64 1) (.int .i64 1),
 .bin .geq (lf 0) (.int .i64 1) (.bool true),
 .bin .leq (lf 0) (.int .i64 15) (.bool true),
 .bin .geq (lf 1) (.int .i64 1) (.bool true),
 .bin .leq (lf 1) (.int .i64 7) (.bool true),
 .bin .geq (lf 2) (.int .i64 1) (.bool true),
 .bin .leq (lf 2) (.int .i64 127) (.bool true),
 .bin .geq (lf 3) (.int .i64 1) (.bool true),
 .bin .leq (lf 3) (.int .i64 15) (.bool true),
 .bin .geq (lf 4) (.int .i64 1) (.bool true),
 .bin .leq (lf 4) (.int .i64 7) (.bool true),
 .conv (.toInt .u8) (lf 0) (lf 5),
 .conv .b2s (.sl [lf 5] 1 (some (4, 0, 1))) (lf 6),
 .conv (.toInt .u8) (lf 1) (lf 7),
 .conv .b2s (.sl [lf 7] 1 (some (7, 0, 1))) (lf 8),
 .conv (.toInt .u8) (lf 2) (lf 9),
 .conv .b2s (.sl [lf 9] 1 (some (9, 0, 1))) (lf 10),
 .conv (.toInt .u8) (lf 3) (lf 11),
 .conv .b2s (.sl [lf 11] 1 (some (11, 0, 1))) (lf 12),
 .conv (.toInt .u8) (lf 4) (lf 13),
 .conv .b2s (.sl [lf 13] 1 (some (13, 0, 1))) (lf 14),
 .lens (lf 6) (.int .i64 1),
 .app 1 1 (.sl [.int .u8 1, .int .u8 1] 2 (some (16, 0, 1))) (lf 6) (lf 15),
 .lens (lf 8) (.int .i64 1),
 .app 1 1 (.clo 1000000015 [.hs 1 16 1 0]) (.sl [.int .u8 2, .int .u8 1] 2 none) (lf 16),
 .app 1 1 (.clo 1000000016 [.hs 1 16 2 0]) (lf 8) (lf 17),
 .lens (lf 10) (.int .i64 1),
 .app 1 1 (.clo 1000000017 [.hs 1 16 3 0]) (.sl [.int .u8 3, .int .u8 1] 2 none) (lf 18),
 .app 1 1 (.clo 1000000018 [.hs 1 16 4 0]) (lf 10) (lf 19),
 .lens (lf 12) (.int .i64 1),
 .app 1 1 (.clo 1000000019 [.hs 1 16 5 0]) (.sl [.int .u8 4, .int .u8 1] 2 none) (lf 20),
 .app 1 1 (.clo 1000000020 [.hs 1 16 6 0]) (lf 12) (lf 21),
 .lens (lf 14) (.int .i64 1),
 .app 1 1 (.clo 1000000021 [.hs 1 16 7 0]) (.sl [.int .u8 5, .int .u8 1] 2 none) (lf 22),
 .app 1 1 (.clo 1000000022 [.hs 1 16 8 0]) (lf 14) (lf 23),
 .len (.clo 1000000023 [.hs 1 16 9 0]) (.int .i64 15),
 .conv .b2s (.clo 1000000023 [.hs 1 16 9 0]) (lf 24),
 .bin .add (.str [2, 0, 0, 0, 1, 0, 0, 0, 0, 1]) (lf 24) (lf 25)]
theorem r156_B : (fP 600 156 [.agg [.int .u32 2, .int .u32 1, .int .i64 0, .int .i64 1, lf 0, lf 1, lf 2, lf 3, lf 4]] (FS.none' [.int .i64 1, .int .i64 1, .bool true, .bool true, .bool true, .bool true, .bool true, .bool true, .bool true, .bool true, .bool true, .bool true, lf 5, lf 6, lf 7, lf 8, lf 9, lf 10, lf 11, lf 12, lf 13, lf 14, .int .i64 1, .int .i64 1, lf 15, .int .i64 1, .int .i64 1, lf 16, lf 17, .int .i64 1, .int .i64 1, lf 18, lf 19, .int .i64 1, .int .i64 1, lf 20, lf 21, .int .i64 1, .int .i64 1, lf 22, lf 23, .int .i64 15, lf 24, lf 25])).said U156_B = some (.tup [lf 25, .bool true]) := by kernel_rfl
theorem l156_B {nb ns nw nz nt : Nat} : (V156_B nb ns nw nz nt).all lfOk = true := rfl
theorem u156_B {nb ns nw nz nt : Nat} (h : Off nb ns nw nz nt) : ∀ a ∈ U156_B, NtOk (Sg.of (Lo (V156_B nb ns nw nz nt)) (Lo_ok l156_B)) cxM a :=
  all_cons (by unfold NtOk; exact and1_ok (Nat.lt_of_le_of_lt h.b2 (by decide)) h.bo) <|
  all_cons (by unfold NtOk; exact and1_ok (Nat.lt_of_le_of_lt h.s2 (by decide)) h.so) <|
  all_cons (by unfold NtOk; exact geq_ok h.b1) <|
  all_cons (by unfold NtOk; exact leq_ok h.b2) <|
  all_cons (by unfold NtOk; exact geq_ok h.s1) <|
  all_cons (by unfold NtOk; exact leq_ok h.s2) <|
  all_cons (by unfold NtOk; exact geq_ok h.w1) <|
  all_cons (by unfold NtOk; exact leq_ok h.w2) <|
  all_cons (by unfold NtOk; exact geq_ok h.z1) <|
  all_cons (by unfold NtOk; exact leq_ok h.z2) <|
  all_cons (by unfold NtOk; exact geq_ok h.t1) <|
  all_cons (by unfold NtOk; exact leq_ok h.t2) <|
  all_cons (by unfold NtOk; exact cv (Nat.lt_of_le_of_lt h.b2 (by decide))) <|
  all_cons (by unfold NtOk; exact rfl) <|
  all_cons (by unfold NtOk; exact cv (Nat.lt_of_le_of_lt h.s2 (by decide))) <|
  all_cons (by unfold NtOk; exact rfl) <|
  all_cons (by unfold NtOk; exact cv (Nat.lt_of_le_of_lt h.w2 (by decide))) <|
  all_cons (by unfold NtOk; exact rfl) <|
  all_cons (by unfold NtOk; exact cv (Nat.lt_of_le_of_lt h.z2 (by decide))) <|
  all_cons (by unfold NtOk; exact rfl) <|
  all_cons (by unfold NtOk; exact cv (Nat.lt_of_le_of_lt h.t2 (by decide))) <|
  all_cons (by unfold NtOk; exact rfl) <|
  all_cons (by unfold NtOk; exact ⟨_, rfl, rfl⟩) <|
  all_cons (by unfold NtOk; exact ⟨_, _, _, _, .inr ⟨_, rfl⟩, .inr (.inr ⟨_, rfl, rfl, rfl, rfl⟩), Nat.succ_ne_zero _, rfl, rfl, rfl⟩) <|
  all_cons (by unfold NtOk; exact ⟨_, rfl, rfl⟩) <|
  all_cons (by unfold NtOk; exact ⟨_, _, _, _, .inr ⟨_, rfl⟩, .inr (.inl ⟨_, rfl, rfl⟩), Nat.succ_ne_zero _, rfl, rfl, rfl⟩) <|
  all_cons (by unfold NtOk; exact ⟨_, _, _, _, .inr ⟨_, rfl⟩, .inr (.inr ⟨_, rfl, rfl, rfl, rfl⟩), Nat.succ_ne_zero _, rfl, rfl, rfl⟩) <|
  all_cons (by unfold NtOk; exact ⟨_, rfl, rfl⟩) <|
  all_cons (by unfold NtOk; exact ⟨_, _, _, _, .inr ⟨_, rfl⟩, .inr (.inl ⟨_, rfl, rfl⟩), Nat.succ_ne_zero _, rfl, rfl, rfl⟩) <|
  all_cons (by unfold NtOk; exact ⟨_, _, _, _, .inr ⟨_, rfl⟩, .inr (.inr ⟨_, rfl, rfl, rfl, rfl⟩), Nat.succ_ne_zero _, rfl, rfl, rfl⟩) <|
  all_cons (by unfold NtOk; exact ⟨_, rfl, rfl⟩) <|
  all_cons (by unfold NtOk; exact ⟨_, _, _, _, .inr ⟨_, rfl⟩, .inr (.inl ⟨_, rfl, rfl⟩), Nat.succ_ne_zero _, rfl, rfl, rfl⟩) <|
  all_cons (by unfold NtOk; exact ⟨_, _, _, _, .inr ⟨_, rfl⟩, .inr (.inr ⟨_, rfl, rfl, rfl, rfl⟩), Nat.succ_ne_zero _, rfl, rfl, rfl⟩) <|
  all_cons (by unfold NtOk; exact ⟨_, rfl, rfl⟩) <|
  all_cons (by unfold NtOk; exact ⟨_, _, _, _, .inr ⟨_, rfl⟩, .inr (.inl ⟨_, rfl, rfl⟩), Nat.succ_ne_zero _, rfl, rfl, rfl⟩) <|
  all_cons (by unfold NtOk; exact ⟨_, _, _, _, .inr ⟨_, rfl⟩, .inr (.inr ⟨_, rfl, rfl, rfl, rfl⟩), Nat.succ_ne_zero _, rfl, rfl, rfl⟩) <|
  all_cons (by unfold NtOk; exact ⟨_, _, _, rfl, rfl⟩) <|
  all_cons (by unfold NtOk; exact b2s_ok _ _ rfl _) <|
  all_cons (by unfold NtOk; exact rfl) <|
  all_nil
theorem s156_B {nb ns nw nz nt : Nat} (h : Off nb ns nw nz nt) : hSem 156 [.agg [.int .u32 2, .int .u32 1, .int .i64 0, .int .i64 1, .int .i64 (nb : Nat), .int .i64 (ns : Nat), .int .i64 (nw : Nat), .int .i64 (nz : Nat), .int .i64 (nt : Nat)]] St.nil = some (.tup [.str (ub [2, 0, 0, 0, 1, 0, 0, 0, 0, 1, 1, 1, nb, 2, 1, ns, 3, 1, nw, 4, 1, nz, 5, 1, nt]), .bool true]) :=
  sem_to l156_B r156_B (u156_B h) rfl rfl rfl rfl
def V77_B (nb ns nw nz nt : Nat) : List AV := [.bool false,
 .bool false,
 .bool false,
 .bool false,
 .bool false,
 .bool false,
 .bool false,
 .bool false,
 .bool false,
 .bool false,
 .bool false,
 .bool false,
 .bool false,
 .bool false,
 .bool false,
 .bool false,
 .bool false,
 .bool false,
 .bool false,
 .bool false,
 .bool false,
 .bool false,
 .bool false,
 .bool false,
 .bool false,
 .str (ub [2, 0, 0, 0, 1, 0, 0, 0, 0, 1, 1, 1, nb, 2, 1, ns, 3, 1, nw, 4, 1, nz, 5, 1, nt])]
def U77_B : List Nt := [.lens (lf 25) (.int .i64 25),
 .eqv true (.flat (.many [.i, .i, .b, .i, .i, .i, .i, .b, .s])) (.agg [.int .i64 127, .int .i64 255, .bool false, .int .i64 3, .int .i64 3, .int .i64 0, .int .i64 0, .bool true, lf 25]) (.agg [.int .i64 127, .int .i64 255, .bool false, .int .i64 3, .int .i64 3, .int .i64 0, .int .i64 0, .bool true, lf 25]) (.bool false)]
theorem r77_B : (fP 600 77 [.agg [.int .i64 127, .int .i64 255, .bool false, .int .i64 3, .int .i64 3, .int .i64 0, .int .i64 0, .bool true, lf 25]] (FS.none' [.int .i64 25, .int .i64 25, .bool false])).said U77_B = some (.tup [.agg [.int .i64 127, .int .i64 255, .bool false, .iface 193 (.agg [.int .i64 3, .bool true]), lf 25], .bool true]) := by kernel_rfl
theorem l77_B {nb ns nw nz nt : Nat} : (V77_B nb ns nw nz nt).all lfOk = true := rfl
theorem u77_B {nb ns nw nz nt : Nat} (h : Off nb ns nw nz nt) : ∀ a ∈ U77_B, NtOk (Sg.of (Lo (V77_B nb ns nw nz nt)) (Lo_ok l77_B)) cxM a :=
  all_cons (by unfold NtOk; exact ⟨_, rfl, rfl⟩) <|
  all_cons (by unfold NtOk; exact ⟨true, by show eqAV (.flat (.many [.i, .i, .b, .i, .i, .i, .i, .b, .s])) (.agg [.int .i64 127, .int .i64 255, .bool false, .int .i64 3, .int .i64 3, .int .i64 0, .int .i64 0, .bool true, .str (ub [2, 0, 0, 0, 1, 0, 0, 0, 0, 1, 1, 1, nb, 2, 1, ns, 3, 1, nw, 4, 1, nz, 5, 1, nt])]) (.agg [.int .i64 127, .int .i64 255, .bool false, .int .i64 3, .int .i64 3, .int .i64 0, .int .i64 0, .bool true, .str (ub [2, 0, 0, 0, 1, 0, 0, 0, 0, 1, 1, 1, nb, 2, 1, ns, 3, 1, nw, 4, 1, nz, 5, 1, nt])]) = some true; simp [eqAV, eqFl, eqScL, eqSc], rfl⟩) <|
  all_nil
theorem s77_B {nb ns nw nz nt : Nat} (h : Off nb ns nw nz nt) : hSem 77 [.agg [.int .i64 127, .int .i64 255, .bool false, .int .i64 3, .int .i64 3, .int .i64 0, .int .i64 0, .bool true, .str (ub [2, 0, 0, 0, 1, 0, 0, 0, 0, 1, 1, 1, nb, 2, 1, ns, 3, 1, nw, 4, 1, nz, 5, 1, nt])]] St.nil = some (.tup [.agg [.int .i64 127, .int .i64 255, .bool false, .iface 193 (.agg [.int .i64 3, .bool true]), .str (ub [2, 0, 0, 0, 1, 0, 0, 0, 0, 1, 1, 1, nb, 2, 1, ns, 3, 1, nw, 4, 1, nz, 5, 1, nt])], .bool true]) :=
  sem_to l77_B r77_B (u77_B h) rfl rfl rfl rfl
def V78_B (nb ns nw nz nt : Nat) : List AV := [.bool false,
 .bool false,
 .bool false,
 .bool false,
 .bool false,
 .bool false,
 .bool false,
 .bool false,
 .bool false,
 .bool false,
 .bool false,
 .bool false,
 .bool false,
 .bool false,
 .bool false,
 .bool false,
 .bool false,
 .bool false,
 .bool false,
 .bool false,
 .bool false,
 .bool false,
 .bool false,
 .bool false,
 .bool false,
 .str (ub [2, 0, 0, 0, 1, 0, 0, 0, 0, 1, 1, 1, nb, 2, 1, ns, 3, 1, nw, 4, 1, nz, 5, 1, nt]),
 .sl (bytesAV (ub [254, 255, 115, 2, 0, 0, 0, 1, 0, 0, 0, 0, 1, 1, 1, nb, 2, 1, ns, 3, 1, nw, 4, 1, nz, 5, 1, nt])) 28 none]
def U78_B : List Nt := [.lens (lf 25) (.int .i64 25),
 .app 1 1 (.sl [.int .u8 254, .int .u8 255, .int .u8 115] 3 (some (9, 0, 1))) (lf 25) (lf 26)]
theorem r78_B : (fP 600 78 [.agg [.int .i64 127, .int .i64 255, .bool false, .iface 193 (.agg [.int .i64 3, .bool true]), lf 25]] (FS.none' [.int .i64 25, lf 26])).said U78_B = some (.tup [.clo 1000000026 [.hs 1 9 1 0], .bool true]) := by kernel_rfl
theorem l78_B {nb ns nw nz nt : Nat} : (V78_B nb ns nw nz nt).all lfOk = true := rfl
theorem u78_B {nb ns nw nz nt : Nat} (h : Off nb ns nw nz nt) : ∀ a ∈ U78_B, NtOk (Sg.of (Lo (V78_B nb ns nw nz nt)) (Lo_ok l78_B)) cxM a :=
  all_cons (by unfold NtOk; exact ⟨_, rfl, rfl⟩) <|
  all_cons (by unfold NtOk; exact ⟨_, _, _, _, .inr ⟨_, rfl⟩, .inr (.inr ⟨_, rfl, rfl, rfl, rfl⟩), Nat.succ_ne_zero _, rfl, rfl, rfl⟩) <|
  all_nil
theorem s78_B {nb ns nw nz nt : Nat} (h : Off nb ns nw nz nt) : hSem 78 [.agg [.int .i64 127, .int .i64 255, .bool false, .iface 193 (.agg [.int .i64 3, .bool true]), .str (ub [2, 0, 0, 0, 1, 0, 0, 0, 0, 1, 1, 1, nb, 2, 1, ns, 3, 1, nw, 4, 1, nz, 5, 1, nt])]] St.nil = some (.tup [.sl (bytesAV (ub [254, 255, 115, 2, 0, 0, 0, 1, 0, 0, 0, 0, 1, 1, 1, nb, 2, 1, ns, 3, 1, nw, 4, 1, nz, 5, 1, nt])) 28 none, .bool true]) :=
  sem_to l78_B r78_B (u78_B h) rfl rfl rfl rfl
def V72_B (nb ns nw nz nt : Nat) : List AV := [.bool false,
 .bool false,
 .bool false,
 .bool false,
 .bool false,
 .bool false,
 .bool false,
 .bool false,
 .bool false,
 .bool false,
 .bool false,
 .bool false,
 .bool false,
 .bool false,
 .bool false,
 .bool false,
 .bool false,
 .bool false,
 .bool false,
 .bool false,
 .bool false,
 .bool false,
 .bool false,
 .bool false,
 .bool false,
 .str (ub [2, 0, 0, 0, 1, 0, 0, 0, 0, 1, 1, 1, nb, 2, 1, ns, 3, 1, nw, 4, 1, nz, 5, 1, nt])]
def U72_B : List Nt := [.lens (lf 25) (.int .i64 25)]
theorem r72_B : (fP 600 72 [.agg [.int .i64 127, .int .i64 255, .bool false, .iface 193 (.agg [.int .i64 3, .bool true]), lf 25]] (FS.none' [.int .i64 25])).said U72_B = some (.agg [.int .i64 127, .int .i64 255, .bool false, .int .i64 3, .int .i64 3, .int .i64 0, .int .i64 0, .bool true, lf 25]) := by kernel_rfl
theorem l72_B {nb ns nw nz nt : Nat} : (V72_B nb ns nw nz nt).all lfOk = true := rfl
theorem u72_B {nb ns nw nz nt : Nat} (h : Off nb ns nw nz nt) : ∀ a ∈ U72_B, NtOk (Sg.of (Lo (V72_B nb ns nw nz nt)) (Lo_ok l72_B)) cxM a :=
  all_cons (by unfold NtOk; exact ⟨_, rfl, rfl⟩) <|
  all_nil
theorem s72_B {nb ns nw nz nt : Nat} (h : Off nb ns nw nz nt) : hSem 72 [.agg [.int .i64 127, .int .i64 255, .bool false, .iface 193 (.agg [.int .i64 3, .bool true]), .str (ub [2, 0, 0, 0, 1, 0, 0, 0, 0, 1, 1, 1, nb, 2, 1, ns, 3, 1, nw, 4, 1, nz, 5, 1, nt])]] St.nil = some (.agg [.int .i64 127, .int .i64 255, .bool false, .int .i64 3, .int .i64 3, .int .i64 0, .int .i64 0, .bool true, .str (ub [2, 0, 0, 0, 1, 0, 0, 0, 0, 1, 1, 1, nb, 2, 1, ns, 3, 1, nw, 4, 1, nz, 5, 1, nt])]) :=
  sem_to l72_B r72_B (u72_B h) rfl rfl rfl rfl
def V70_B (nb ns nw nz nt : Nat) : List AV := [.bool false,
 .bool false,
 .bool false,
 .bool false,
 .bool false,
 .bool false,
 .bool false,
 .bool false,
 .bool false,
 .bool false,
 .bool false,
 .bool false,
 .bool false,
 .bool false,
 .bool false,
 .bool false,
 .bool false,
 .bool false,
 .bool false,
 .bool false,
 .bool false,
 .bool false,
 .bool false,
 .bool false,
 .bool false,
 .str (ub [2, 0, 0, 0, 1, 0, 0, 0, 0, 1, 1, 1, nb, 2, 1, ns, 3, 1, nw, 4, 1, nz, 5, 1, nt]),
 .sl (bytesAV (ub [254, 255, 115, 2, 0, 0, 0, 1, 0, 0, 0, 0, 1, 1, 1, nb, 2, 1, ns, 3, 1, nw, 4, 1, nz, 5, 1, nt])) 28 none,
 .rp (bytesAV (ub [115, 2, 0, 0, 0, 1, 0, 0, 0, 0, 1, 1, 1, nb, 2, 1, ns, 3, 1, nw, 4, 1, nz, 5, 1, nt])),
 .rp (bytesAV (ub [254, 255, 115, 2, 0, 0, 0, 1, 0, 0, 0, 0, 1, 1, 1, nb, 2, 1, ns, 3, 1, nw, 4, 1, nz, 5, 1, nt])),
 .rp (bytesAV (ub [255, 115, 2, 0, 0, 0, 1, 0, 0, 0, 0, 1, 1, 1, nb, 2, 1, ns, 3, 1, nw, 4, 1, nz, 5, 1, nt])),
 .sl (bytesAV (ub [2, 0, 0, 0, 1, 0, 0, 0, 0, 1, 1, 1, nb, 2, 1, ns, 3, 1, nw, 4, 1, nz, 5, 1, nt])) 25 none]
def U70_B : List Nt := [.len (lf 26) (.int .i64 28),
 .ixa 1 (lf 26) (.int .i64 2) (lf 27),
 .load none (lf 27) (.int .u8 115),
 .ixa 1 (lf 26) (.int .i64 0) (lf 28),
 .load none (lf 28) (.int .u8 254),
 .ixa 1 (lf 26) (.int .i64 1) (lf 29),
 .load none (lf 29) (.int .u8 255),
 .slc 1 (lf 26) (some (.int .i64 3)) none (lf 30),
 .conv .b2s (lf 30) (lf 25),
 .lens (lf 25) (.int .i64 25)]
theorem r70_B : (fP 600 70 [lf 26] (FS.none' [.int .i64 28, lf 27, .int .u8 115, lf 28, .int .u8 254, lf 29, .int .u8 255, lf 28, .int .u8 254, lf 30, lf 25, .int .i64 25])).said U70_B = some (.tup [.agg [.int .i64 127, .int .i64 255, .bool false, .iface 193 (.agg [.int .i64 3, .bool true]), lf 25], .bool true]) := by kernel_rfl
theorem l70_B {nb ns nw nz nt : Nat} : (V70_B nb ns nw nz nt).all lfOk = true := rfl
theorem u70_B {nb ns nw nz nt : Nat} (h : Off nb ns nw nz nt) : ∀ a ∈ U70_B, NtOk (Sg.of (Lo (V70_B nb ns nw nz nt)) (Lo_ok l70_B)) cxM a :=
  all_cons (by unfold NtOk; exact ⟨_, _, _, rfl, rfl⟩) <|
  all_cons (by unfold NtOk; exact ⟨_, _, _, 2, rfl, rfl, rfl⟩) <|
  all_cons (by unfold NtOk; exact ⟨_, rfl, rfl⟩) <|
  all_cons (by unfold NtOk; exact ⟨_, _, _, 0, rfl, rfl, rfl⟩) <|
  all_cons (by unfold NtOk; exact ⟨_, rfl, rfl⟩) <|
  all_cons (by unfold NtOk; exact ⟨_, _, _, 1, rfl, rfl, rfl⟩) <|
  all_cons (by unfold NtOk; exact ⟨_, rfl, rfl⟩) <|
  all_cons (by unfold NtOk; exact rfl) <|
  all_cons (by unfold NtOk; exact b2s_ok _ _ rfl _) <|
  all_cons (by unfold NtOk; exact ⟨_, rfl, rfl⟩) <|
  all_nil
theorem s70_B {nb ns nw nz nt : Nat} (h : Off nb ns nw nz nt) : hSem 70 [.sl (bytesAV (ub [254, 255, 115, 2, 0, 0, 0, 1, 0, 0, 0, 0, 1, 1, 1, nb, 2, 1, ns, 3, 1, nw, 4, 1, nz, 5, 1, nt])) 28 none] St.nil = some (.tup [.agg [.int .i64 127, .int .i64 255, .bool false, .iface 193 (.agg [.int .i64 3, .bool true]), .str (ub [2, 0, 0, 0, 1, 0, 0, 0, 0, 1, 1, 1, nb, 2, 1, ns, 3, 1, nw, 4, 1, nz, 5, 1, nt])], .bool true]) :=
  sem_to l70_B r70_B (u70_B h) rfl rfl rfl rfl
def V143_B (nb ns nw nz nt : Nat) : List AV := [.int .i64 (nb : Nat),
 .int .i64 (ns : Nat),
 .int .i64 (nw : Nat),
 .int .i64 (nz : Nat),
 .int .i64 (nt : Nat),
 .int .u8 (nb : Nat),
 .str (ub [nb]),
 .int .u8 (ns : Nat),
 .str (ub [ns]),
 .int .u8 (nw : Nat),
 .str (ub [nw]),
 .int .u8 (nz : Nat),
 .str (ub [nz]),
 .int .u8 (nt : Nat),
 .str (ub [nt]),
 .bool false,
 .bool false,
 .bool false,
 .bool false,
 .bool false,
 .bool false,
 .bool false,
 .bool false,
 .bool false,
 .str (ub [1, 1, nb, 2, 1, ns, 3, 1, nw, 4, 1, nz, 5, 1, nt]),
 .str (ub [2, 0, 0, 0, 1, 0, 0, 0, 0, 1, 1, 1, nb, 2, 1, ns, 3, 1, nw, 4, 1, nz, 5, 1, nt]),
 .bool false,
 .bool false,
 .bool false,
 .bool false,
 .bool false,
 .str (ub [1, 0, 0, 0, 0, 1, 1, 1, nb, 2, 1, ns, 3, 1, nw, 4, 1, nz, 5, 1, nt]),
 .str (ub [2, 1, ns, 3, 1, nw, 4, 1, nz, 5, 1, nt]),
 .str (ub [3, 1, nw, 4, 1, nz, 5, 1, nt]),
 .str (ub [4, 1, nz, 5, 1, nt]),
 .str (ub [5, 1, nt])]
def U143_B : List Nt := [.lens (lf 25) (.int .i64 25),
 .ixs (lf 25) (.int .i64 0) (.int .u8 2),
 .ixs (lf 25) (.int .i64 1) (.int .u8 0),
 .ixs (lf 25) (.int .i64 2) (.int .u8 0),
 .ixs (lf 25) (.int .i64 3) (.int .u8 0),
 .sls (lf 25) (some (.int .i64 4)) none (lf 31),
 .ixs (lf 31) (.int .i64 0) (.int .u8 1),
 .ixs (lf 31) (.int .i64 1) (.int .u8 0),
 .ixs (lf 31) (.int .i64 2) (.int .u8 0),
 .ixs (lf 31) (.int .i64 3) (.int .u8 0),
 .ixs (lf 25) (.int .i64 8) (.int .u8 0),
 .ixs (lf 25) (.int .i64 9) (.int .u8 1),
 .sls (lf 25) (some (.int .i64 10)) none (lf 24),
 .lens (lf 24) (.int .i64 15),
 .bin .neq (lf 24) (.str []) (.bool true),
 .ixs (lf 24) (.int .i64 1) (.int .u8 1),
 .ixs (lf 24) (.int .i64 0) (.int .u8 1),
 .sls (lf 24) (some (.int .i64 2)) (some (.int .i64 3)) (lf 6),
 .sls (lf 24) (some (.int .i64 3)) none (lf 32),
 .bin .neq (lf 32) (.str []) (.bool true),
 .lens (lf 32) (.int .i64 12),
 .ixs (lf 32) (.int .i64 1) (.int .u8 1),
 .ixs (lf 32) (.int .i64 0) (.int .u8 2),
 .sls (lf 32) (some (.int .i64 2)) (some (.int .i64 3)) (lf 8),
 .sls (lf 32) (some (.int .i64 3)) none (lf 33),
 .bin .neq (lf 33) (.str []) (.bool true),
 .lens (lf 33) (.int .i64 9),
 .ixs (lf 33) (.int .i64 1) (.int .u8 1),
 .ixs (lf 33) (.int .i64 0) (.int .u8 3),
 .sls (lf 33) (some (.int .i64 2)) (some (.int .i64 3)) (lf 10),
 .sls (lf 33) (some (.int .i64 3)) none (lf 34),
 .bin .neq (lf 34) (.str []) (.bool true),
 .lens (lf 34) (.int .i64 6),
 .ixs (lf 34) (.int .i64 1) (.int .u8 1),
 .ixs (lf 34) (.int .i64 0) (.int .u8 4),
 .sls (lf 34) (some (.int .i64 2)) (some (.int .i64 3)) (lf 12),
 .sls (lf 34) (some (.int .i64 3)) none (lf 35),
 .bin .neq (lf 35) (.str []) (.bool true),
 .lens (lf 35) (.int .i64 3),
 .ixs (lf 35) (.int .i64 1) (.int .u8 1),
 .ixs (lf 35) (.int .i64 0) (.int .u8 5),
 .sls (lf 35) (some (.int .i64 2)) (some (.int .i64 3)) (lf 14),
 .sls (lf 35) (some (.int .i64 3)) none (.str []),
 .lens (lf 6) (.int .i64 1),
 .ixs (lf 6) (.int .i64 0) (lf 5),
 .conv (.toInt .i64) (lf 5) (lf 0),
 .lens (lf 8) (.int .i64 1),
 .ixs (lf 8) (.int .i64 0) (lf 7),
 .conv (.toInt .i64) (lf 7) (lf 1),
 .lens (lf 10) (.int .i64 1),
 .ixs (lf 10) (.int .i64 0) (lf 9),
 .conv (.toInt .i64) (lf 9) (lf 2),
 .lens (lf 12) (.int .i64 1),
 .ixs (lf 12) (.int .i64 0) (lf 11),
 .conv (.toInt .i64) (lf 11) (lf 3),
 .lens (lf 14) (.int .i64 1),
 .ixs (lf 14) (.int .i64 0) (lf 13),
 .conv (.toInt .i64) (lf 13) (lf 4),
 .bin .and (lf 0) (.int .i64 1) (.int .i64 1),
 .bin .and (lf 1) (.int .i64 1) (.int .i64 1),
 .bin .geq (lf 0) (.int .i64 1) (.bool true),
 .bin .leq (lf 0) (.int .i64 15) (.bool true),
 .bin .geq (lf 1) (.int .i64 1) (.bool true),
 .bin .leq (lf 1) (.int .i64 7) (.bool true),
 .bin .geq (lf 2) (.int .i64 1) (.bool true),
 .bin .leq (lf 2) (.int .i64 127) (.bool true),
 .bin .geq (lf 3) (.int .i64 1) (.bool true),
 .bin .leq (lf 3) (.int .i64 15) (.bool true),
 .bin .geq (lf 4) (.int .i64 1) (.bool true),
 .bin .leq (lf 4) (.int .i64 7) (.bool true)]
theorem r143_B : (fP 600 143 [lf 25] (FS.none' [.int .i64 25, .int .u8 2, .int .u8 0, .int .u8 0, .int .u8 0, lf 31, .int .u8 1, .int .u8 0, .int .u8 0, .int .u8 0, .int .u8 0, .int .u8 1, lf 24, .int .i64 15, .bool true, .int .i64 15, .int .u8 1, .int .i64 15, .int .u8 1, .int .u8 1, .int .u8 1, lf 6, lf 32, .bool true, .int .i64 12, .int .u8 1, .int .i64 12, .int .u8 1, .int .u8 1, .int .u8 2, lf 8, lf 33, .bool true, .int .i64 9, .int .u8 1, .int .i64 9, .int .u8 1, .int .u8 1, .int .u8 3, lf 10, lf 34, .bool true, .int .i64 6, .int .u8 1, .int .i64 6, .int .u8 1, .int .u8 1, .int .u8 4, lf 12, lf 35, .bool true, .int .i64 3, .int .u8 1, .int .i64 3, .int .u8 1, .int .u8 1, .int .u8 5, lf 14, .str [], .int .i64 1, lf 5, lf 0, .int .i64 1, lf 7, lf 1, .int .i64 1, lf 9, lf 2, .int .i64 1, lf 11, lf 3, .int .i64 1, lf 13, lf 4, .int .i64 1, .int .i64 1, .bool true, .bool true, .bool true, .bool true, .bool true, .bool true, .bool true, .bool true, .bool true, .bool true])).said U143_B = some (.tup [.agg [.int .u32 2, .int .u32 1, .int .i64 0, .int .i64 1, lf 0, lf 1, lf 2, lf 3, lf 4], .bool true]) := by kernel_rfl
theorem l143_B {nb ns nw nz nt : Nat} : (V143_B nb ns nw nz nt).all lfOk = true := rfl
theorem u143_B {nb ns nw nz nt : Nat} (h : Off nb ns nw nz nt) : ∀ a ∈ U143_B, NtOk (Sg.of (Lo (V143_B nb ns nw nz nt)) (Lo_ok l143_B)) cxM a :=
  all_cons (by unfold NtOk; exact ⟨_, rfl, rfl⟩) <|
  all_cons (by unfold NtOk; exact ⟨_, 0, _, rfl, rfl, rfl, rfl⟩) <|
  all_cons (by unfold NtOk; exact ⟨_, 1, _, rfl, rfl, rfl, rfl⟩) <|
  all_cons (by unfold NtOk; exact ⟨_, 2, _, rfl, rfl, rfl, rfl⟩) <|
  all_cons (by unfold NtOk; exact ⟨_, 3, _, rfl, rfl, rfl, rfl⟩) <|
  all_cons (by unfold NtOk; exact rfl) <|
  all_cons (by unfold NtOk; exact ⟨_, 0, _, rfl, rfl, rfl, rfl⟩) <|
  all_cons (by unfold NtOk; exact ⟨_, 1, _, rfl, rfl, rfl, rfl⟩) <|
  all_cons (by unfold NtOk; exact ⟨_, 2, _, rfl, rfl, rfl, rfl⟩) <|
  all_cons (by unfold NtOk; exact ⟨_, 3, _, rfl, rfl, rfl, rfl⟩) <|
  all_cons (by unfold NtOk; exact ⟨_, 8, _, rfl, rfl, rfl, rfl⟩) <|
  all_cons (by unfold NtOk; exact ⟨_, 9, _, rfl, rfl, rfl, rfl⟩) <|
  all_cons (by unfold NtOk; exact rfl) <|
  all_cons (by unfold NtOk; exact ⟨_, rfl, rfl⟩) <|
  all_cons (by unfold NtOk; exact rfl) <|
  all_cons (by unfold NtOk; exact ⟨_, 1, _, rfl, rfl, rfl, rfl⟩) <|
  all_cons (by unfold NtOk; exact ⟨_, 0, _, rfl, rfl, rfl, rfl⟩) <|
  all_cons (by unfold NtOk; exact rfl) <|
  all_cons (by unfold NtOk; exact rfl) <|
  all_cons (by unfold NtOk; exact rfl) <|
  all_cons (by unfold NtOk; exact ⟨_, rfl, rfl⟩) <|
  all_cons (by unfold NtOk; exact ⟨_, 1, _, rfl, rfl, rfl, rfl⟩) <|
  all_cons (by unfold NtOk; exact ⟨_, 0, _, rfl, rfl, rfl, rfl⟩) <|
  all_cons (by unfold NtOk; exact rfl) <|
  all_cons (by unfold NtOk; exact rfl) <|
  all_cons (by unfold NtOk; exact rfl) <|
  all_cons (by unfold NtOk; exact ⟨_, rfl, rfl⟩) <|
  all_cons (by unfold NtOk; exact ⟨_, 1, _, rfl, rfl, rfl, rfl⟩) <|
  all_cons (by unfold NtOk; exact ⟨_, 0, _, rfl, rfl, rfl, rfl⟩) <|
  all_cons (by unfold NtOk; exact rfl) <|
  all_cons (by unfold NtOk; exact rfl) <|
  all_cons (by unfold NtOk; exact rfl) <|
  all_cons (by unfold NtOk; exact ⟨_, rfl, rfl⟩) <|
  all_cons (by unfold NtOk; exact ⟨_, 1, _, rfl, rfl, rfl, rfl⟩) <|
  all_cons (by unfold NtOk; exact ⟨_, 0, _, rfl, rfl, rfl, rfl⟩) <|
  all_cons (by unfold NtOk; exact rfl) <|
  all_cons (by unfold NtOk; exact rfl) <|
  all_cons (by unfold NtOk; exact rfl) <|
  all_cons (by unfold NtOk; exact ⟨_, rfl, rfl⟩) <|
  all_cons (by unfold NtOk; exact ⟨_, 1, _, rfl, rfl, rfl, rfl⟩) <|
  all_cons (by unfold NtOk; exact ⟨_, 0, _, rfl, rfl, rfl, rfl⟩) <|
  all_cons (by unfold NtOk; exact rfl) <|
  all_cons (by unfold NtOk; exact rfl) <|
  all_cons (by unfold NtOk; exact ⟨_, rfl, rfl⟩) <|
  all_cons (by unfold NtOk; exact ⟨_, 0, _, rfl, rfl, rfl, i8 (Nat.lt_of_le_of_lt h.b2 (by decide))⟩) <|
  all_cons (by unfold NtOk; exact cv (Nat.lt_of_le_of_lt h.b2 (by decide))) <|
  all_cons (by unfold NtOk; exact ⟨_, rfl, rfl⟩) <|
  all_cons (by unfold NtOk; exact ⟨_, 0, _, rfl, rfl, rfl, i8 (Nat.lt_of_le_of_lt h.s2 (by decide))⟩) <|
  all_cons (by unfold NtOk; exact cv (Nat.lt_of_le_of_lt h.s2 (by decide))) <|
  all_cons (by unfold NtOk; exact ⟨_, rfl, rfl⟩) <|
  all_cons (by unfold NtOk; exact ⟨_, 0, _, rfl, rfl, rfl, i8 (Nat.lt_of_le_of_lt h.w2 (by decide))⟩) <|
  all_cons (by unfold NtOk; exact cv (Nat.lt_of_le_of_lt h.w2 (by decide))) <|
  all_cons (by unfold NtOk; exact ⟨_, rfl, rfl⟩) <|
  all_cons (by unfold NtOk; exact ⟨_, 0, _, rfl, rfl, rfl, i8 (Nat.lt_of_le_of_lt h.z2 (by decide))⟩) <|
  all_cons (by unfold NtOk; exact cv (Nat.lt_of_le_of_lt h.z2 (by decide))) <|
  all_cons (by unfold NtOk; exact ⟨_, rfl, rfl⟩) <|
  all_cons (by unfold NtOk; exact ⟨_, 0, _, rfl, rfl, rfl, i8 (Nat.lt_of_le_of_lt h.t2 (by decide))⟩) <|
  all_cons (by unfold NtOk; exact cv (Nat.lt_of_le_of_lt h.t2 (by decide))) <|
  all_cons (by unfold NtOk; exact and1_ok (Nat.lt_of_le_of_lt h.b2 (by decide)) h.bo) <|
  all_cons (by unfold NtOk; exact and1_ok (Nat.lt_of_le_of_lt h.s2 (by decide)) h.so) <|
  all_cons (by unfold NtOk; exact geq_ok h.b1) <|
  all_cons (by unfold NtOk; exact leq_ok h.b2) <|
  all_cons (by unfold NtOk; exact geq_ok h.s1) <|
  all_cons (by unfold NtOk; exact leq_ok h.s2) <|
  all_cons (by unfold NtOk; exact geq_ok h.w1) <|
  all_cons (by unfold NtOk; exact leq_ok h.w2) <|
  all_cons (by unfold NtOk; exact geq_ok h.z1) <|
  all_cons (by unfold NtOk; exact leq_ok h.z2) <|
  all_cons (by unfold NtOk; exact geq_ok h.t1) <|
  all_cons (by unfold NtOk; exact leq_ok h.t2) <|
  all_nil
theorem s143_B {nb ns nw nz nt : Nat} (h : Off nb ns nw nz nt) : hSem 143 [.str (ub [2, 0, 0, 0, 1, 0, 0, 0, 0, 1, 1, 1, nb, 2, 1, ns, 3, 1, nw, 4, 1, nz, 5, 1, nt])] St.nil = some (.tup [.agg [.int .u32 2, .int .u32 1, .int .i64 0, .int .i64 1, .int .i64 (nb : Nat), .int .i64 (ns : Nat), .int .i64 (nw : Nat), .int .i64 (nz : Nat), .int .i64 (nt : Nat)], .bool true]) :=
  sem_to l143_B r143_B (u143_B h) rfl rfl rfl rfl
def V104_B (nb ns nw nz nt : Nat) : List AV := [.bool false,
 .bool false,
 .bool false,
 .bool false,
 .bool false,
 .bool false,
 .bool false,
 .bool false,
 .bool false,
 .bool false,
 .bool false,
 .bool false,
 .bool false,
 .bool false,
 .bool false,
 .bool false,
 .bool false,
 .bool false,
 .bool false,
 .bool false,
 .bool false,
 .bool false,
 .bool false,
 .bool false,
 .bool false,
 .str (ub [2, 0, 0, 0, 1, 0, 0, 0, 0, 1, 1, 1, nb, 2, 1, ns, 3, 1, nw, 4, 1, nz, 5, 1, nt]),
 .bool false,
 .bool false,
 .bool false,
 .bool false,
 .bool false,
 .str (ub [1, 0, 0, 0, 0, 1, 1, 1, nb, 2, 1, ns, 3, 1, nw, 4, 1, nz, 5, 1, nt]),
 .bool false,
 .bool false,
 .bool false,
 .bool false,
 .str (ub [1, nb, 2, 1, ns, 3, 1, nw, 4, 1, nz, 5, 1, nt])]
def U104_B : List Nt := [.lens (lf 25) (.int .i64 25),
 .ixs (lf 25) (.int .i64 0) (.int .u8 2),
 .ixs (lf 25) (.int .i64 1) (.int .u8 0),
 .ixs (lf 25) (.int .i64 2) (.int .u8 0),
 .ixs (lf 25) (.int .i64 3) (.int .u8 0),
 .sls (lf 25) (some (.int .i64 4)) none (lf 31),
 .ixs (lf 31) (.int .i64 0) (.int .u8 1),
 .ixs (lf 31) (.int .i64 1) (.int .u8 0),
 .ixs (lf 31) (.int .i64 2) (.int .u8 0),
 .ixs (lf 31) (.int .i64 3) (.int .u8 0),
 .ixs (lf 25) (.int .i64 8) (.int .u8 0),
 .ixs (lf 25) (.int .i64 9) (.int .u8 1),
 .ixs (lf 25) (.int .i64 10) (.int .u8 1),
 .sls (lf 25) (some (.int .i64 11)) none (lf 36)]
theorem r104_B : (fP 600 104 [lf 25] (FS.none' [.int .i64 25, .int .u8 2, .int .u8 0, .int .u8 0, .int .u8 0, lf 31, .int .u8 1, .int .u8 0, .int .u8 0, .int .u8 0, .int .u8 0, .int .u8 1, .int .u8 1, lf 36])).said U104_B = some (.tup [.agg [.int .u32 0, .int .u32 0, .int .i64 0, .int .i64 0, .bool false, .str []], .bool false]) := by kernel_rfl
theorem l104_B {nb ns nw nz nt : Nat} : (V104_B nb ns nw nz nt).all lfOk = true := rfl
theorem u104_B {nb ns nw nz nt : Nat} (h : Off nb ns nw nz nt) : ∀ a ∈ U104_B, NtOk (Sg.of (Lo (V104_B nb ns nw nz nt)) (Lo_ok l104_B)) cxM a :=
  all_cons (by unfold NtOk; exact ⟨_, rfl, rfl⟩) <|
  all_cons (by unfold NtOk; exact ⟨_, 0, _, rfl, rfl, rfl, rfl⟩) <|
  all_cons (by unfold NtOk; exact ⟨_, 1, _, rfl, rfl, rfl, rfl⟩) <|
  all_cons (by unfold NtOk; exact ⟨_, 2, _, rfl, rfl, rfl, rfl⟩) <|
  all_cons (by unfold NtOk; exact ⟨_, 3, _, rfl, rfl, rfl, rfl⟩) <|
  all_cons (by unfold NtOk; exact rfl) <|
  all_cons (by unfold NtOk; exact ⟨_, 0, _, rfl, rfl, rfl, rfl⟩) <|
  all_cons (by unfold NtOk; exact ⟨_, 1, _, rfl, rfl, rfl, rfl⟩) <|
  all_cons (by unfold NtOk; exact ⟨_, 2, _, rfl, rfl, rfl, rfl⟩) <|
  all_cons (by unfold NtOk; exact ⟨_, 3, _, rfl, rfl, rfl, rfl⟩) <|
  all_cons (by unfold NtOk; exact ⟨_, 8, _, rfl, rfl, rfl, rfl⟩) <|
  all_cons (by unfold NtOk; exact ⟨_, 9, _, rfl, rfl, rfl, rfl⟩) <|
  all_cons (by unfold NtOk; exact ⟨_, 10, _, rfl, rfl, rfl, rfl⟩) <|
  all_cons (by unfold NtOk; exact rfl) <|
  all_nil
theorem s104_B {nb ns nw nz nt : Nat} (h : Off nb ns nw nz nt) : hSem 104 [.str (ub [2, 0, 0, 0, 1, 0, 0, 0, 0, 1, 1, 1, nb, 2, 1, ns, 3, 1, nw, 4, 1, nz, 5, 1, nt])] St.nil = some (.tup [.agg [.int .u32 0, .int .u32 0, .int .i64 0, .int .i64 0, .bool false, .str []], .bool false]) :=
  sem_to l104_B r104_B (u104_B h) rfl rfl rfl rfl
end Go.Proofs.YtgflghhffmjojaaGreatDoor
set_option linter.unusedVariables false
set_option maxRecDepth 100000
set_option maxHeartbeats 4000000
namespace Go.Proofs.YtgflghhffmjojaaGreatDoor
open Go Go.Ab
def V156_C (nb ns nw nz nt : Nat) : List AV := [.int .i64 (nb : Nat),
 .int .i64 (ns : Nat),
 .int .i64 (nw : Nat),
 .int .i64 (nz : Nat),
 .int .i64 (nt : Nat),
 .int .u8 (nb : Nat),
 .str (ub [nb]),
 .int .u8 (ns : Nat),
 .str (ub [ns]),
 .int .u8 (nw : Nat),
 .str (ub [nw]),
 .int .u8 (nz : Nat),
 .str (ub [nz]),
 .int .u8 (nt : Nat),
 .str (ub [nt]),
 .sl (bytesAV (ub [1, 1, nb])) 3 none,
 .sl (bytesAV (ub [1, 1, nb, 2, 1])) 5 none,
 .sl (bytesAV (ub [1, 1, nb, 2, 1, ns])) 6 none,
 .sl (bytesAV (ub [1, 1, nb, 2, 1, ns, 3, 1])) 8 none,
 .sl (bytesAV (ub [1, 1, nb, 2, 1, ns, 3, 1, nw])) 9 none,
 .sl (bytesAV (ub [1, 1, nb, 2, 1, ns, 3, 1, nw, 4, 1])) 11 none,
 .sl (bytesAV (ub [1, 1, nb, 2, 1, ns, 3, 1, nw, 4, 1, nz])) 12 none,
 .sl (bytesAV (ub [1, 1, nb, 2, 1, ns, 3, 1, nw, 4, 1, nz, 5, 1])) 14 none,
 .sl (bytesAV (ub [1, 1, nb, 2, 1, ns, 3, 1, nw, 4, 1, nz, 5, 1, nt])) 15 none,
 .str (ub [1, 1, nb, 2, 1, ns, 3, 1, nw, 4, 1, nz, 5, 1, nt]),
 .str (ub [3, 0, 0, 0, 1, 0, 0, 0, 2, 1, 1, 1, nb, 2, 1, ns, 3, 1, nw, 4, 1, nz, 5, 1, nt])]
def U156_C : List Nt := [.bin .and (lf 0) (.int .i64 1) (.int .i64 1),
 .bin .and (lf 1) (.int .i64 1) (.int .i64 1),
 .bin .geq (lf 0) (.int .i64 1) (.bool true),
 .bin .leq (lf 0) (.int .i64 15) (.bool true),
 .bin .geq (lf 1) (.int .i64 1) (.bool true),
 .bin .leq (lf 1) (.int .i64 7) (.bool true),
 .bin .geq (lf 2) (.int .i64 1) (.bool true),
 .bin .leq (lf 2) (.int .i64 127) (.bool true),
 .bin .geq (lf 3) (.int .i64 1) (.bool true),
 .bin .leq (lf 3) (.int .i64 15) (.bool true),
 .bin .geq (lf 4) (.int .i64 1) (.bool true),
 .bin .leq (lf 4) (.int .i64 7) (.bool true),
 .conv (.toInt .u8) (lf 0) (lf 5),
 .conv .b2s (.sl [lf 5] 1 (some (4, 0, 1))) (lf 6),
 .conv (.toInt .u8) (lf 1) (lf 7),
 .conv .b2s (.sl [lf 7] 1 (some (7, 0, 1))) (lf 8),
 .conv (.toInt .u8) (lf 2) (lf 9),
 .conv .b2s (.sl [lf 9] 1 (some (9, 0, 1))) (lf 10),
 .conv (.toInt .u8) (lf 3) (lf 11),
 .conv .b2s (.sl [lf 11] 1 (some (11, 0, 1))) (lf 12),
 .conv (.toInt .u8) (lf 4) (lf 13),
 .conv .b2s (.sl [lf 13] 1 (some (13, 0, 1))) (lf 14),
 .lens (lf 6) (.int .i64 1),
 .app 1 1 (.sl [.int .u8 1, .int .u8 1] 2 (some (16, 0, 1))) (lf 6) (lf 15),
 .lens (lf 8) (.int .i64 1),
 .app 1 1 (.clo 1000000015 [.hs 1 16 1 0]) (.sl [.int .u8 2, .int .u8 1] 2 none) (lf 16),
 .app 1 1 (.clo 1000000016 [.hs 1 16 2 0]) (lf 8) (lf 17),
 .lens (lf 10) (.int .i64 1),
 .app 1 1 (.clo 1000000017 [.hs 1 16 3 0]) (.sl [.int .u8 3, .int .u8 1] 2 none) (lf 18),
 .app 1 1 (.clo 1000000018 [.hs 1 16 4 0]) (lf 10) (lf 19),
 .lens (lf 12) (.int .i64 1),
 .app 1 1 (.clo 1000000019 [.hs 1 16 5 0]) (.sl [.int .u8 4, .int .u8 1] 2 none) (lf 20),
 .app 1 1 (.clo 1000000020 [.hs 1 16 6 0]) (lf 12) (lf 21),
 .lens (lf 14) (.int .i64 1),
 .app 1 1 (.clo 1000000021 [.hs 1 16 7 0]) (.sl [.int .u8 5, .int .u8 1] 2 none) (lf 22),
 .app 1 1 (.clo 1000000022 [.hs 1 16 8 0]) (lf 14) (lf 23),
 .len (.clo 1000000023 [.hs 1 16 9 0]) (.int .i64 15),
 .conv .b2s (.clo 1000000023 [.hs 1 16 9 0]) (lf 24),
 .bin .add (.str [3, 0, 0, 0, 1, 0, 0, 0, 2, 1]) (lf 24) (lf 25)]
theorem r156_C : (fP 600 156 [.agg [.int .u32 3, .int .u32 1, .int .i64 2, .int .i64 1, lf 0, lf 1, lf 2, lf 3, lf 4]] (FS.none' [.int .i64 1, .int .i64 1, .bool true, .bool true, .bool true, .bool true, .bool true, .bool true, .bool true, .bool true, .bool true, .bool true, lf 5, lf 6, lf 7, lf 8, lf 9, lf 10, lf 11, lf 12, lf 13, lf 14, .int .i64 1, .int .i64 1, lf 15, .int .i64 1, .int .i64 1, lf 16, lf 17, .int .i64 1, .int .i64 1, lf 18, lf 19, .int .i64 1, .int .i64 1, lf 20, lf 21, .int .i64 1, .int .i64 1, lf 22, lf 23, .int .i64 15, lf 24, lf 25])).said U156_C = some (.tup [lf 25, .bool true]) := by kernel_rfl
theorem l156_C {nb ns nw nz nt : Nat} : (V156_C nb ns nw nz nt).all lfOk = true := rfl
theorem u156_C {nb ns nw nz nt : Nat} (h : Off nb ns nw nz nt) : ∀ a ∈ U156_C, NtOk (Sg.of (Lo (V156_C nb ns nw nz nt)) (Lo_ok l156_C)) cxM a :=
  all_cons (by unfold NtOk; exact and1_ok (Nat.lt_of_le_of_lt h.b2 (by decide)) h.bo) <|
  all_cons (by unfold NtOk; exact and1_ok (Nat.lt_of_le_of_lt h.s2 (by decide)) h.so) <|
  all_cons (by unfold NtOk; exact geq_ok h.b1) <|
  all_cons (by unfold NtOk; exact leq_ok h.b2) <|
  all_cons (by unfold NtOk; exact geq_ok h.s1) <|
  all_cons (by unfold NtOk; exact leq_ok h.s2) <|
  all_cons (by unfold NtOk; exact geq_ok h.w1) <|
  all_cons (by unfold NtOk; exact leq_ok h.w2) <|
  all_cons (by unfold NtOk; exact geq_ok h.z1) <|
  all_cons (by unfold NtOk; exact leq_ok h.z2) <|
  all_cons (by unfold NtOk; exact geq_ok h.t1) <|
  all_cons (by unfold NtOk; exact leq_ok h.t2) <|
  all_cons (by unfold NtOk; exact cv (Nat.lt_of_le_of_lt h.b2 (by decide))) <|
  all_cons (by unfold NtOk; exact rfl) <|
  all_cons (by unfold NtOk; exact cv (Nat.lt_of_le_of_lt h.s2 (by decide))) <|
  all_cons (by unfold NtOk; exact rfl) <|
  all_cons (by unfold NtOk; exact cv (Nat.lt_of_le_of_lt h.w2 (by decide))) <|
  all_cons (by unfold NtOk; exact rfl) <|
  all_cons (by unfold NtOk; exact cv (Nat.lt_of_le_of_lt h.z2 (by decide))) <|
  all_cons (by unfold NtOk; exact rfl) <|
  all_cons (by unfold NtOk; exact cv (Nat.lt_of_le_of_lt h.t2 (by decide))) <|
  all_cons (by unfold NtOk; exact rfl) <|
  all_cons (by unfold NtOk; exact ⟨_, rfl, rfl⟩) <|
  all_cons (by unfold NtOk; exact ⟨_, _, _, _, .inr ⟨_, rfl⟩, .inr (.inr ⟨_, rfl, rfl, rfl, rfl⟩), Nat.succ_ne_zero _, rfl, rfl, rfl⟩) <|
  all_cons (by unfold NtOk; exact ⟨_, rfl, rfl⟩) <|
  all_cons (by unfold NtOk; exact ⟨_, _, _, _, .inr ⟨_, rfl⟩, .inr (.inl ⟨_, rfl, rfl⟩), Nat.succ_ne_zero _, rfl, rfl, rfl⟩) <|
  all_cons (by unfold NtOk; exact ⟨_, _, _, _, .inr ⟨_, rfl⟩, .inr (.inr ⟨_, rfl, rfl, rfl, rfl⟩), Nat.succ_ne_zero _, rfl, rfl, rfl⟩) <|
  all_cons (by unfold NtOk; exact ⟨_, rfl, rfl⟩) <|
  all_cons (by unfold NtOk; exact ⟨_, _, _, _, .inr ⟨_, rfl⟩, .inr (.inl ⟨_, rfl, rfl⟩), Nat.succ_ne_zero _, rfl, rfl, rfl⟩) <|
  all_cons (by unfold NtOk; exact ⟨_, _, _, _, .inr ⟨_, rfl⟩, .inr (.inr ⟨_, rfl, rfl, rfl, rfl⟩), Nat.succ_ne_zero _, rfl, rfl, rfl⟩) <|
  all_cons (by unfold NtOk; exact ⟨_, rfl, rfl⟩) <|
  all_cons (by unfold NtOk; exact ⟨_, _, _, _, .inr ⟨_, rfl⟩, .inr (.inl ⟨_, rfl, rfl⟩), Nat.succ_ne_zero _, rfl, rfl, rfl⟩) <|
  all_cons (by unfold NtOk; exact ⟨_, _, _, _, .inr ⟨_, rfl⟩, .inr (.inr ⟨_, rfl, rfl, rfl, rfl⟩), Nat.succ_ne_zero _, rfl, rfl, rfl⟩) <|
  all_cons (by unfold NtOk; exact ⟨_, rfl, rfl⟩) <|
  all_cons (by unfold NtOk; exact ⟨_, _, _, _, .inr ⟨_, rfl⟩, .inr (.inl ⟨_, rfl, rfl⟩), Nat.succ_ne_zero _, rfl, rfl, rfl⟩) <|
  all_cons (by unfold NtOk; exact ⟨_, _, _, _, .inr ⟨_, rfl⟩, .inr (.inr ⟨_, rfl, rfl, rfl, rfl⟩), Nat.succ_ne_zero _, rfl, rfl, rfl⟩) <|
  all_cons (by unfold NtOk; exact ⟨_, _, _, rfl, rfl⟩) <|
  all_cons (by unfold NtOk; exact b2s_ok _ _ rfl _) <|
  all_cons (by unfold NtOk; exact rfl) <|
  all_nil
theorem s156_C {nb ns nw nz nt : Nat} (h : Off nb ns nw nz nt) : hSem 156 [.agg [.int .u32 3, .int .u32 1, .int .i64 2, .int .i64 1, .int .i64 (nb : Nat), .int .i64 (ns : Nat), .int .i64 (nw : Nat), .int .i64 (nz : Nat), .int .i64 (nt : Nat)]] St.nil = some (.tup [.str (ub [3, 0, 0, 0, 1, 0, 0, 0, 2, 1, 1, 1, nb, 2, 1, ns, 3, 1, nw, 4, 1, nz, 5, 1, nt]), .bool true]) :=
  sem_to l156_C r156_C (u156_C h) rfl rfl rfl rfl
def V77_C (nb ns nw nz nt : Nat) : List AV := [.bool false,
 .bool false,
 .bool false,
 .bool false,
 .bool false,
 .bool false,
 .bool false,
 .bool false,
 .bool false,
 .bool false,
 .bool false,
 .bool false,
 .bool false,
 .bool false,
 .bool false,
 .bool false,
 .bool false,
 .bool false,
 .bool false,
 .bool false,
 .bool false,
 .bool false,
 .bool false,
 .bool false,
 .bool false,
 .str (ub [3, 0, 0, 0, 1, 0, 0, 0, 2, 1, 1, 1, nb, 2, 1, ns, 3, 1, nw, 4, 1, nz, 5, 1, nt])]
def U77_C : List Nt := [.lens (lf 25) (.int .i64 25),
 .eqv true (.flat (.many [.i, .i, .b, .i, .i, .i, .i, .b, .s])) (.agg [.int .i64 127, .int .i64 255, .bool true, .int .i64 3, .int .i64 2, .int .i64 0, .int .i64 0, .bool true, lf 25]) (.agg [.int .i64 127, .int .i64 255, .bool true, .int .i64 3, .int .i64 2, .int .i64 0, .int .i64 0, .bool true, lf 25]) (.bool false)]
theorem r77_C : (fP 600 77 [.agg [.int .i64 127, .int .i64 255, .bool true, .int .i64 3, .int .i64 2, .int .i64 0, .int .i64 0, .bool true, lf 25]] (FS.none' [.int .i64 25, .int .i64 25, .bool false])).said U77_C = some (.tup [.agg [.int .i64 127, .int .i64 255, .bool true, .iface 193 (.agg [.int .i64 2, .bool true]), lf 25], .bool true]) := by kernel_rfl
theorem l77_C {nb ns nw nz nt : Nat} : (V77_C nb ns nw nz nt).all lfOk = true := rfl
theorem u77_C {nb ns nw nz nt : Nat} (h : Off nb ns nw nz nt) : ∀ a ∈ U77_C, NtOk (Sg.of (Lo (V77_C nb ns nw nz nt)) (Lo_ok l77_C)) cxM a :=
  all_cons (by unfold NtOk; exact ⟨_, rfl, rfl⟩) <|
  all_cons (by unfold NtOk; exact ⟨true, by show eqAV (.flat (.many [.i, .i, .b, .i, .i, .i, .i, .b, .s])) (.agg [.int .i64 127, .int .i64 255, .bool true, .int .i64 3, .int .i64 2, .int .i64 0, .int .i64 0, .bool true, .str (ub [3, 0, 0, 0, 1, 0, 0, 0, 2, 1, 1, 1, nb, 2, 1, ns, 3, 1, nw, 4, 1, nz, 5, 1, nt])]) (.agg [.int .i64 127, .int .i64 255, .bool true, .int .i64 3, .int .i64 2, .int .i64 0, .int .i64 0, .bool true, .str (ub [3, 0, 0, 0, 1, 0, 0, 0, 2, 1, 1, 1, nb, 2, 1, ns, 3, 1, nw, 4, 1, nz, 5, 1, nt])]) = some true; simp [eqAV, eqFl, eqScL, eqSc], rfl⟩) <|
  all_nil
theorem s77_C {nb ns nw nz nt : Nat} (h : Off nb ns nw nz nt) : hSem 77 [.agg [.int .i64 127, .int .i64 255, .bool true, .int .i64 3, .int .i64 2, .int .i64 0, .int .i64 0, .bool true, .str (ub [3, 0, 0, 0, 1, 0, 0, 0, 2, 1, 1, 1, nb, 2, 1, ns, 3, 1, nw, 4, 1, nz, 5, 1, nt])]] St.nil = some (.tup [.agg [.int .i64 127, .int .i64 255, .bool true, .iface 193 (.agg [.int .i64 2, .bool true]), .str (ub [3, 0, 0, 0, 1, 0, 0, 0, 2, 1, 1, 1, nb, 2, 1, ns, 3, 1, nw, 4, 1, nz, 5, 1, nt])], .bool true]) :=
  sem_to l77_C r77_C (u77_C h) rfl rfl rfl rfl
def V78_C (nb ns nw nz nt : Nat) : List AV := [.bool false,
 .bool false,
 .bool false,
 .bool false,
 .bool false,
 .bool false,
 .bool false,
 .bool false,
 .bool false,
 .bool false,
 .bool false,
 .bool false,
 .bool false,
 .bool false,
 .bool false,
 .bool false,
 .bool false,
 .bool false,
 .bool false,
 .bool false,
 .bool false,
 .bool false,
 .bool false,
 .bool false,
 .bool false,
 .str (ub [3, 0, 0, 0, 1, 0, 0, 0, 2, 1, 1, 1, nb, 2, 1, ns, 3, 1, nw, 4, 1, nz, 5, 1, nt]),
 .sl (bytesAV (ub [255, 255, 147, 3, 0, 0, 0, 1, 0, 0, 0, 2, 1, 1, 1, nb, 2, 1, ns, 3, 1, nw, 4, 1, nz, 5, 1, nt])) 28 none]
def U78_C : List Nt := [.lens (lf 25) (.int .i64 25),
 .app 1 1 (.sl [.int .u8 255, .int .u8 255, .int .u8 147] 3 (some (9, 0, 1))) (lf 25) (lf 26)]
theorem r78_C : (fP 600 78 [.agg [.int .i64 127, .int .i64 255, .bool true, .iface 193 (.agg [.int .i64 2, .bool true]), lf 25]] (FS.none' [.int .i64 25, lf 26])).said U78_C = some (.tup [.clo 1000000026 [.hs 1 9 1 0], .bool true]) := by kernel_rfl
theorem l78_C {nb ns nw nz nt : Nat} : (V78_C nb ns nw nz nt).all lfOk = true := rfl
theorem u78_C {nb ns nw nz nt : Nat} (h : Off nb ns nw nz nt) : ∀ a ∈ U78_C, NtOk (Sg.of (Lo (V78_C nb ns nw nz nt)) (Lo_ok l78_C)) cxM a :=
  all_cons (by unfold NtOk; exact ⟨_, rfl, rfl⟩) <|
  all_cons (by unfold NtOk; exact ⟨_, _, _, _, .inr ⟨_, rfl⟩, .inr (.inr ⟨_, rfl, rfl, rfl, rfl⟩), Nat.succ_ne_zero _, rfl, rfl, rfl⟩) <|
  all_nil
theorem s78_C {nb ns nw nz nt : Nat} (h : Off nb ns nw nz nt) : hSem 78 [.agg [.int .i64 127, .int .i64 255, .bool true, .iface 193 (.agg [.int .i64 2, .bool true]), .str (ub [3, 0, 0, 0, 1, 0, 0, 0, 2, 1, 1, 1, nb, 2, 1, ns, 3, 1, nw, 4, 1, nz, 5, 1, nt])]] St.nil = some (.tup [.sl (bytesAV (ub [255, 255, 147, 3, 0, 0, 0, 1, 0, 0, 0, 2, 1, 1, 1, nb, 2, 1, ns, 3, 1, nw, 4, 1, nz, 5, 1, nt])) 28 none, .bool true]) :=
  sem_to l78_C r78_C (u78_C h) rfl rfl rfl rfl
end Go.Proofs.YtgflghhffmjojaaGreatDoor
set_option linter.unusedVariables false
set_option maxRecDepth 100000
set_option maxHeartbeats 4000000
namespace Go.Proofs.YtgflghhffmjojaaGreatDoor
open Go Go.Ab
def V156_D (nb ns nw nz nt : Nat) : List AV := [.int .i64 (nb : Nat),
 .int .i64 (ns : Nat),
 .int .i64 (nw : Nat),
 .int .i64 (nz : Nat),
 .int .i64 (nt : Nat),
 .int .u8 (nb : Nat),
 .str (ub [nb]),
 .int .u8 (ns : Nat),
 .str (ub [ns]),
 .int .u8 (nw : Nat),
 .str (ub [nw]),
 .int .u8 (nz : Nat),
 .str (ub [nz]),
 .int .u8 (nt : Nat),
 .str (ub [nt]),
 .sl (bytesAV (ub [1, 1, nb])) 3 none,
 .sl (bytesAV (ub [1, 1, nb, 2, 1])) 5 none,
 .sl (bytesAV (ub [1, 1, nb, 2, 1, ns])) 6 none,
 .sl (bytesAV (ub [1, 1, nb, 2, 1, ns, 3, 1])) 8 none,
 .sl (bytesAV (ub [1, 1, nb, 2, 1, ns, 3, 1, nw])) 9 none,
 .sl (bytesAV (ub [1, 1, nb, 2, 1, ns, 3, 1, nw, 4, 1])) 11 none,
 .sl (bytesAV (ub [1, 1, nb, 2, 1, ns, 3, 1, nw, 4, 1, nz])) 12 none,
 .sl (bytesAV (ub [1, 1, nb, 2, 1, ns, 3, 1, nw, 4, 1, nz, 5, 1])) 14 none,
 .sl (bytesAV (ub [1, 1, nb, 2, 1, ns, 3, 1, nw, 4, 1, nz, 5, 1, nt])) 15 none,
 .str (ub [1, 1, nb, 2, 1, ns, 3, 1, nw, 4, 1, nz, 5, 1, nt]),
 .str (ub [3, 0, 0, 0, 2, 0, 0, 0, 2, 1, 1, 1, nb, 2, 1, ns, 3, 1, nw, 4, 1, nz, 5, 1, nt])]
def U156_D : List Nt := [.bin .and (lf 0) (.int .i64 1) (.int .i64 1),
 .bin .and (lf 1) (.int .i64 1) (.int .i64 1),
 .bin .geq (lf 0) (.int .i64 1) (.bool true),
 .bin .leq (lf 0) (.int .i64 15) (.bool true),
 .bin .geq (lf 1) (.int .i64 1) (.bool true),
 .bin .leq (lf 1) (.int .i64 7) (.bool true),
 .bin .geq (lf 2) (.int .i64 1) (.bool true),
 .bin .leq (lf 2) (.int .i64 127) (.bool true),
 .bin .geq (lf 3) (.int .i64 1) (.bool true),
 .bin .leq (lf 3) (.int .i64 15) (.bool true),
 .bin .geq (lf 4) (.int .i64 1) (.bool true),
 .bin .leq (lf 4) (.int .i64 7) (.bool true),
 .conv (.toInt .u8) (lf 0) (lf 5),
 .conv .b2s (.sl [lf 5] 1 (some (4, 0, 1))) (lf 6),
 .conv (.toInt .u8) (lf 1) (lf 7),
 .conv .b2s (.sl [lf 7] 1 (some (7, 0, 1))) (lf 8),
 .conv (.toInt .u8) (lf 2) (lf 9),
 .conv .b2s (.sl [lf 9] 1 (some (9, 0, 1))) (lf 10),
 .conv (.toInt .u8) (lf 3) (lf 11),
 .conv .b2s (.sl [lf 11] 1 (some (11, 0, 1))) (lf 12),
 .conv (.toInt .u8) (lf 4) (lf 13),
 .conv .b2s (.sl [lf 13] 1 (some (13, 0, 1))) (lf 14),
 .lens (lf 6) (.int .i64 1),
 .app 1 1 (.sl [.int .u8 1, .int .u8 1] 2 (some (16, 0, 1))) (lf 6) (lf 15),
 .lens (lf 8) (.int .i64 1),
 .app 1 1 (.clo 1000000015 [.hs 1 16 1 0]) (.sl [.int .u8 2, .int .u8 1] 2 none) (lf 16),
 .app 1 1 (.clo 1000000016 [.hs 1 16 2 0]) (lf 8) (lf 17),
 .lens (lf 10) (.int .i64 1),
 .app 1 1 (.clo 1000000017 [.hs 1 16 3 0]) (.sl [.int .u8 3, .int .u8 1] 2 none) (lf 18),
 .app 1 1 (.clo 1000000018 [.hs 1 16 4 0]) (lf 10) (lf 19),
 .lens (lf 12) (.int .i64 1),
 .app 1 1 (.clo 1000000019 [.hs 1 16 5 0]) (.sl [.int .u8 4, .int .u8 1] 2 none) (lf 20),
 .app 1 1 (.clo 1000000020 [.hs 1 16 6 0]) (lf 12) (lf 21),
 .lens (lf 14) (.int .i64 1),
 .app 1 1 (.clo 1000000021 [.hs 1 16 7 0]) (.sl [.int .u8 5, .int .u8 1] 2 none) (lf 22),
 .app 1 1 (.clo 1000000022 [.hs 1 16 8 0]) (lf 14) (lf 23),
 .len (.clo 1000000023 [.hs 1 16 9 0]) (.int .i64 15),
 .conv .b2s (.clo 1000000023 [.hs 1 16 9 0]) (lf 24),
 .bin .add (.str [3, 0, 0, 0, 2, 0, 0, 0, 2, 1]) (lf 24) (lf 25)]
theorem r156_D : (fP 600 156 [.agg [.int .u32 3, .int .u32 2, .int .i64 2, .int .i64 1, lf 0, lf 1, lf 2, lf 3, lf 4]] (FS.none' [.int .i64 1, .int .i64 1, .bool true, .bool true, .bool true, .bool true, .bool true, .bool true, .bool true, .bool true, .bool true, .bool true, lf 5, lf 6, lf 7, lf 8, lf 9, lf 10, lf 11, lf 12, lf 13, lf 14, .int .i64 1, .int .i64 1, lf 15, .int .i64 1, .int .i64 1, lf 16, lf 17, .int .i64 1, .int .i64 1, lf 18, lf 19, .int .i64 1, .int .i64 1, lf 20, lf 21, .int .i64 1, .int .i64 1, lf 22, lf 23, .int .i64 15, lf 24, lf 25])).said U156_D = some (.tup [lf 25, .bool true]) := by kernel_rfl
theorem l156_D {nb ns nw nz nt : Nat} : (V156_D nb ns nw nz nt).all lfOk = true := rfl
theorem u156_D {nb ns nw nz nt : Nat} (h : Off nb ns nw nz nt) : ∀ a ∈ U156_D, NtOk (Sg.of (Lo (V156_D nb ns nw nz nt)) (Lo_ok l156_D)) cxM a :=
  all_cons (by unfold NtOk; exact and1_ok (Nat.lt_of_le_of_lt h.b2 (by decide)) h.bo) <|
  all_cons (by unfold NtOk; exact and1_ok (Nat.lt_of_le_of_lt h.s2 (by decide)) h.so) <|
  all_cons (by unfold NtOk; exact geq_ok h.b1) <|
  all_cons (by unfold NtOk; exact leq_ok h.b2) <|
  all_cons (by unfold NtOk; exact geq_ok h.s1) <|
  all_cons (by unfold NtOk; exact leq_ok h.s2) <|
  all_cons (by unfold NtOk; exact geq_ok h.w1) <|
  all_cons (by unfold NtOk; exact leq_ok h.w2) <|
  all_cons (by unfold NtOk; exact geq_ok h.z1) <|
  all_cons (by unfold NtOk; exact leq_ok h.z2) <|
  all_cons (by unfold NtOk; exact geq_ok h.t1) <|
  all_cons (by unfold NtOk; exact leq_ok h.t2) <|
  all_cons (by unfold NtOk; exact cv (Nat.lt_of_le_of_lt h.b2 (by decide))) <|
  all_cons (by unfold NtOk; exact rfl) <|
  all_cons (by unfold NtOk; exact cv (Nat.lt_of_le_of_lt h.s2 (by decide))) <|
  all_cons (by unfold NtOk; exact rfl) <|
  all_cons (by unfold NtOk; exact cv (Nat.lt_of_le_of_lt h.w2 (by decide))) <|
  all_cons (by unfold NtOk; exact rfl) <|
  all_cons (by unfold NtOk; exact cv (Nat.lt_of_le_of_lt h.z2 (by decide))) <|
  all_cons (by unfold NtOk; exact rfl) <|
  all_cons (by unfold NtOk; exact cv (Nat.lt_of_le_of_lt h.t2 (by decide))) <|
  all_cons (by unfold NtOk; exact rfl) <|
  all_cons (by unfold NtOk; exact ⟨_, rfl, rfl⟩) <|
  all_cons (by unfold NtOk; exact ⟨_, _, _, _, .inr ⟨_, rfl⟩, .inr (.inr ⟨_, rfl, rfl, rfl, rfl⟩), Nat.succ_ne_zero _, rfl, rfl, rfl⟩) <|
  all_cons (by unfold NtOk; exact ⟨_, rfl, rfl⟩) <|
  all_cons (by unfold NtOk; exact ⟨_, _, _, _, .inr ⟨_, rfl⟩, .inr (.inl ⟨_, rfl, rfl⟩), Nat.succ_ne_zero _, rfl, rfl, rfl⟩) <|
  all_cons (by unfold NtOk; exact ⟨_, _, _, _, .inr ⟨_, rfl⟩, .inr (.inr ⟨_, rfl, rfl, rfl, rfl⟩), Nat.succ_ne_zero _, rfl, rfl, rfl⟩) <|
  all_cons (by unfold NtOk; exact ⟨_, rfl, rfl⟩) <|
  all_cons (by unfold NtOk; exact ⟨_, _, _, _, .inr ⟨_, rfl⟩, .inr (.inl ⟨_, rfl, rfl⟩), Nat.succ_ne_zero _, rfl, rfl, rfl⟩) <|
  all_cons (by unfold NtOk; exact ⟨_, _, _, _, .inr ⟨_, rfl⟩, .inr (.inr ⟨_, rfl, rfl, rfl, rfl⟩), Nat.succ_ne_zero _, rfl, rfl, rfl⟩) <|
  all_cons (by unfold NtOk; exact ⟨_, rfl, rfl⟩) <|
  all_cons (by unfold NtOk; exact ⟨_, _, _, _, .inr ⟨_, rfl⟩, .inr (.inl ⟨_, rfl, rfl⟩), Nat.succ_ne_zero _, rfl, rfl, rfl⟩) <|
  all_cons (by unfold NtOk; exact ⟨_, _, _, _, .inr ⟨_, rfl⟩, .inr (.inr ⟨_, rfl, rfl, rfl, rfl⟩), Nat.succ_ne_zero _, rfl, rfl, rfl⟩) <|
  all_cons (by unfold NtOk; exact ⟨_, rfl, rfl⟩) <|
  all_cons (by unfold NtOk; exact ⟨_, _, _, _, .inr ⟨_, rfl⟩, .inr (.inl ⟨_, rfl, rfl⟩), Nat.succ_ne_zero _, rfl, rfl, rfl⟩) <|
  all_cons (by unfold NtOk; exact ⟨_, _, _, _, .inr ⟨_, rfl⟩, .inr (.inr ⟨_, rfl, rfl, rfl, rfl⟩), Nat.succ_ne_zero _, rfl, rfl, rfl⟩) <|
  all_cons (by unfold NtOk; exact ⟨_, _, _, rfl, rfl⟩) <|
  all_cons (by unfold NtOk; exact b2s_ok _ _ rfl _) <|
  all_cons (by unfold NtOk; exact rfl) <|
  all_nil
theorem s156_D {nb ns nw nz nt : Nat} (h : Off nb ns nw nz nt) : hSem 156 [.agg [.int .u32 3, .int .u32 2, .int .i64 2, .int .i64 1, .int .i64 (nb : Nat), .int .i64 (ns : Nat), .int .i64 (nw : Nat), .int .i64 (nz : Nat), .int .i64 (nt : Nat)]] St.nil = some (.tup [.str (ub [3, 0, 0, 0, 2, 0, 0, 0, 2, 1, 1, 1, nb, 2, 1, ns, 3, 1, nw, 4, 1, nz, 5, 1, nt]), .bool true]) :=
  sem_to l156_D r156_D (u156_D h) rfl rfl rfl rfl
def V77_D (nb ns nw nz nt : Nat) : List AV := [.bool false,
 .bool false,
 .bool false,
 .bool false,
 .bool false,
 .bool false,
 .bool false,
 .bool false,
 .bool false,
 .bool false,
 .bool false,
 .bool false,
 .bool false,
 .bool false,
 .bool false,
 .bool false,
 .bool false,
 .bool false,
 .bool false,
 .bool false,
 .bool false,
 .bool false,
 .bool false,
 .bool false,
 .bool false,
 .str (ub [3, 0, 0, 0, 2, 0, 0, 0, 2, 1, 1, 1, nb, 2, 1, ns, 3, 1, nw, 4, 1, nz, 5, 1, nt])]
def U77_D : List Nt := [.lens (lf 25) (.int .i64 25),
 .eqv true (.flat (.many [.i, .i, .b, .i, .i, .i, .i, .b, .s])) (.agg [.int .i64 127, .int .i64 255, .bool true, .int .i64 3, .int .i64 2, .int .i64 0, .int .i64 0, .bool true, lf 25]) (.agg [.int .i64 127, .int .i64 255, .bool true, .int .i64 3, .int .i64 2, .int .i64 0, .int .i64 0, .bool true, lf 25]) (.bool false)]
theorem r77_D : (fP 600 77 [.agg [.int .i64 127, .int .i64 255, .bool true, .int .i64 3, .int .i64 2, .int .i64 0, .int .i64 0, .bool true, lf 25]] (FS.none' [.int .i64 25, .int .i64 25, .bool false])).said U77_D = some (.tup [.agg [.int .i64 127, .int .i64 255, .bool true, .iface 193 (.agg [.int .i64 2, .bool true]), lf 25], .bool true]) := by kernel_rfl
theorem l77_D {nb ns nw nz nt : Nat} : (V77_D nb ns nw nz nt).all lfOk = true := rfl
theorem u77_D {nb ns nw nz nt : Nat} (h : Off nb ns nw nz nt) : ∀ a ∈ U77_D, NtOk (Sg.of (Lo (V77_D nb ns nw nz nt)) (Lo_ok l77_D)) cxM a :=
  all_cons (by unfold NtOk; exact ⟨_, rfl, rfl⟩) <|
  all_cons (by unfold NtOk; exact ⟨true, by show eqAV (.flat (.many [.i, .i, .b, .i, .i, .i, .i, .b, .s])) (.agg [.int .i64 127, .int .i64 255, .bool true, .int .i64 3, .int .i64 2, .int .i64 0, .int .i64 0, .bool true, .str (ub [3, 0, 0, 0, 2, 0, 0, 0, 2, 1, 1, 1, nb, 2, 1, ns, 3, 1, nw, 4, 1, nz, 5, 1, nt])]) (.agg [.int .i64 127, .int .i64 255, .bool true, .int .i64 3, .int .i64 2, .int .i64 0, .int .i64 0, .bool true, .str (ub [3, 0, 0, 0, 2, 0, 0, 0, 2, 1, 1, 1, nb, 2, 1, ns, 3, 1, nw, 4, 1, nz, 5, 1, nt])]) = some true; simp [eqAV, eqFl, eqScL, eqSc], rfl⟩) <|
  all_nil
theorem s77_D {nb ns nw nz nt : Nat} (h : Off nb ns nw nz nt) : hSem 77 [.agg [.int .i64 127, .int .i64 255, .bool true, .int .i64 3, .int .i64 2, .int .i64 0, .int .i64 0, .bool true, .str (ub [3, 0, 0, 0, 2, 0, 0, 0, 2, 1, 1, 1, nb, 2, 1, ns, 3, 1, nw, 4, 1, nz, 5, 1, nt])]] St.nil = some (.tup [.agg [.int .i64 127, .int .i64 255, .bool true, .iface 193 (.agg [.int .i64 2, .bool true]), .str (ub [3, 0, 0, 0, 2, 0, 0, 0, 2, 1, 1, 1, nb, 2, 1, ns, 3, 1, nw, 4, 1, nz, 5, 1, nt])], .bool true]) :=
  sem_to l77_D r77_D (u77_D h) rfl rfl rfl rfl
def V78_D (nb ns nw nz nt : Nat) : List AV := [.bool false,
 .bool false,
 .bool false,
 .bool false,
 .bool false,
 .bool false,
 .bool false,
 .bool false,
 .bool false,
 .bool false,
 .bool false,
 .bool false,
 .bool false,
 .bool false,
 .bool false,
 .bool false,
 .bool false,
 .bool false,
 .bool false,
 .bool false,
 .bool false,
 .bool false,
 .bool false,
 .bool false,
 .bool false,
 .str (ub [3, 0, 0, 0, 2, 0, 0, 0, 2, 1, 1, 1, nb, 2, 1, ns, 3, 1, nw, 4, 1, nz, 5, 1, nt]),
 .sl (bytesAV (ub [255, 255, 147, 3, 0, 0, 0, 2, 0, 0, 0, 2, 1, 1, 1, nb, 2, 1, ns, 3, 1, nw, 4, 1, nz, 5, 1, nt])) 28 none]
def U78_D : List Nt := [.lens (lf 25) (.int .i64 25),
 .app 1 1 (.sl [.int .u8 255, .int .u8 255, .int .u8 147] 3 (some (9, 0, 1))) (lf 25) (lf 26)]
theorem r78_D : (fP 600 78 [.agg [.int .i64 127, .int .i64 255, .bool true, .iface 193 (.agg [.int .i64 2, .bool true]), lf 25]] (FS.none' [.int .i64 25, lf 26])).said U78_D = some (.tup [.clo 1000000026 [.hs 1 9 1 0], .bool true]) := by kernel_rfl
theorem l78_D {nb ns nw nz nt : Nat} : (V78_D nb ns nw nz nt).all lfOk = true := rfl
theorem u78_D {nb ns nw nz nt : Nat} (h : Off nb ns nw nz nt) : ∀ a ∈ U78_D, NtOk (Sg.of (Lo (V78_D nb ns nw nz nt)) (Lo_ok l78_D)) cxM a :=
  all_cons (by unfold NtOk; exact ⟨_, rfl, rfl⟩) <|
  all_cons (by unfold NtOk; exact ⟨_, _, _, _, .inr ⟨_, rfl⟩, .inr (.inr ⟨_, rfl, rfl, rfl, rfl⟩), Nat.succ_ne_zero _, rfl, rfl, rfl⟩) <|
  all_nil
theorem s78_D {nb ns nw nz nt : Nat} (h : Off nb ns nw nz nt) : hSem 78 [.agg [.int .i64 127, .int .i64 255, .bool true, .iface 193 (.agg [.int .i64 2, .bool true]), .str (ub [3, 0, 0, 0, 2, 0, 0, 0, 2, 1, 1, 1, nb, 2, 1, ns, 3, 1, nw, 4, 1, nz, 5, 1, nt])]] St.nil = some (.tup [.sl (bytesAV (ub [255, 255, 147, 3, 0, 0, 0, 2, 0, 0, 0, 2, 1, 1, 1, nb, 2, 1, ns, 3, 1, nw, 4, 1, nz, 5, 1, nt])) 28 none, .bool true]) :=
  sem_to l78_D r78_D (u78_D h) rfl rfl rfl rfl
end Go.Proofs.YtgflghhffmjojaaGreatDoor
