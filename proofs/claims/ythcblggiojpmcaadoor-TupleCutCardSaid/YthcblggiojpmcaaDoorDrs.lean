/- unicode/utf8.DecodeRuneInString, as the evaluator answers it. No conditions. -/
import Derived.Lib.DecodeNEq
import Derived.Test.YthcblggiojpmcaaDoorIxp
import Derived.Test.YthcblggiojpmcaaDoorR1
import Derived.Test.YthcblggiojpmcaaDoorM4n
set_option linter.unusedSimpArgs false
set_option linter.unusedVariables false
set_option maxRecDepth 100000
set_option maxHeartbeats 4000000
namespace Go.Proofs.YthcblggiojpmcaaDoor
open Go Go.Ab Go.Lib
theorem map_on {α : Type} {f g : Nat → α} {n : Nat} (h : (List.range n).map f = (List.range n).map g) (j : Nat) (hj : j < n) : f j = g j := by
  have := congrArg (·[j]?) h
  simpa [List.getElem?_map, List.getElem?_range hj] using this
theorem tab_first (c : Nat) (h : c < 256) : (ixpV 256 1 (tabGl 0) (.int .u8 (c : Int))).bind (fun p => match p with | .rp cs => Ab.cut cs 0 none | _ => none) = some (.int .u8 (firstT c : Int)) :=
  map_on (f := fun c : Nat => (ixpV 256 1 (tabGl 0) (.int .u8 (c : Int))).bind (fun p => match p with | .rp cs => Ab.cut cs 0 none | _ => none)) (g := fun c : Nat => some (.int .u8 (firstT c : Int))) (n := 256) (by kernel_rfl) c h
theorem first_at (c : Nat) (h : c < 256) : ∃ cs, ixpV 256 1 (tabGl 0) (.int .u8 (c : Int)) = some (.rp cs) ∧ Ab.cut cs 0 none = some (.int .u8 (firstT c : Int)) := by
  have := tab_first c h
  obtain ⟨p, h1, h2⟩ := Option.bind_eq_some_iff.1 this
  split at h2
  · exact ⟨_, h1, h2⟩
  · cases h2
theorem tab_acc (c : Nat) (h : c < 5) : (ixpV 16 2 (tabGl 1) (.int .u8 (c : Int))).bind (fun p => match p with | .rp cs => Ab.cut cs 0 (some 2) | _ => none) = some (.agg [.int .u8 (accLo c : Int), .int .u8 (accHi c : Int)]) :=
  map_on (f := fun c : Nat => (ixpV 16 2 (tabGl 1) (.int .u8 (c : Int))).bind (fun p => match p with | .rp cs => Ab.cut cs 0 (some 2) | _ => none)) (g := fun c : Nat => some (.agg [.int .u8 (accLo c : Int), .int .u8 (accHi c : Int)])) (n := 5) (by kernel_rfl) c h
theorem acc_at (c : Nat) (h : c < 5) : ∃ cs, ixpV 16 2 (tabGl 1) (.int .u8 (c : Int)) = some (.rp cs) ∧ Ab.cut cs 0 (some 2) = some (.agg [.int .u8 (accLo c : Int), .int .u8 (accHi c : Int)]) := by
  have := tab_acc c h
  obtain ⟨p, h1, h2⟩ := Option.bind_eq_some_iff.1 this
  split at h2
  · exact ⟨_, h1, h2⟩
  · cases h2
/-! Bits of bytes. -/
theorem u8_and63 (c : Nat) (h : c < 256) : binV .and (.int .u8 (c : Int)) (.int .u8 63) = some (.int .u8 ((c % 64 : Nat) : Int)) :=
  map_on (f := fun c : Nat => binV .and (.int .u8 (c : Int)) (.int .u8 63)) (g := fun c : Nat => some (.int .u8 ((c % 64 : Nat) : Int))) (n := 256) (by kernel_rfl) c h
theorem u8_and31 (c : Nat) (h : c < 256) : binV .and (.int .u8 (c : Int)) (.int .u8 31) = some (.int .u8 ((c % 32 : Nat) : Int)) :=
  map_on (f := fun c : Nat => binV .and (.int .u8 (c : Int)) (.int .u8 31)) (g := fun c : Nat => some (.int .u8 ((c % 32 : Nat) : Int))) (n := 256) (by kernel_rfl) c h
theorem u8_and15 (c : Nat) (h : c < 256) : binV .and (.int .u8 (c : Int)) (.int .u8 15) = some (.int .u8 ((c % 16 : Nat) : Int)) :=
  map_on (f := fun c : Nat => binV .and (.int .u8 (c : Int)) (.int .u8 15)) (g := fun c : Nat => some (.int .u8 ((c % 16 : Nat) : Int))) (n := 256) (by kernel_rfl) c h
theorem u8_and7 (c : Nat) (h : c < 256) : binV .and (.int .u8 (c : Int)) (.int .u8 7) = some (.int .u8 ((c % 8 : Nat) : Int)) :=
  map_on (f := fun c : Nat => binV .and (.int .u8 (c : Int)) (.int .u8 7)) (g := fun c : Nat => some (.int .u8 ((c % 8 : Nat) : Int))) (n := 256) (by kernel_rfl) c h
theorem u8_shr4 (c : Nat) (h : c < 256) : binV .shr (.int .u8 (c : Int)) (.int .u64 4) = some (.int .u8 ((c / 16 : Nat) : Int)) :=
  map_on (f := fun c : Nat => binV .shr (.int .u8 (c : Int)) (.int .u64 4)) (g := fun c : Nat => some (.int .u8 ((c / 16 : Nat) : Int))) (n := 256) (by kernel_rfl) c h
theorem i32_shl6 (c : Nat) (h : c < 64) : binV .shl (.int .i32 (c : Int)) (.int .u64 6) = some (.int .i32 ((c * 64 : Nat) : Int)) :=
  map_on (f := fun c : Nat => binV .shl (.int .i32 (c : Int)) (.int .u64 6)) (g := fun c : Nat => some (.int .i32 ((c * 64 : Nat) : Int))) (n := 64) (by kernel_rfl) c h
theorem i32_shl12 (c : Nat) (h : c < 64) : binV .shl (.int .i32 (c : Int)) (.int .u64 12) = some (.int .i32 ((c * 4096 : Nat) : Int)) :=
  map_on (f := fun c : Nat => binV .shl (.int .i32 (c : Int)) (.int .u64 12)) (g := fun c : Nat => some (.int .i32 ((c * 4096 : Nat) : Int))) (n := 64) (by kernel_rfl) c h
theorem i32_shl18 (c : Nat) (h : c < 64) : binV .shl (.int .i32 (c : Int)) (.int .u64 18) = some (.int .i32 ((c * 262144 : Nat) : Int)) :=
  map_on (f := fun c : Nat => binV .shl (.int .i32 (c : Int)) (.int .u64 18)) (g := fun c : Nat => some (.int .i32 ((c * 262144 : Nat) : Int))) (n := 64) (by kernel_rfl) c h
theorem i32_or (a b : Nat) (ha : a < 4194304) (hb : b < 4194304) (m k : Nat) (hm : a = 2 ^ k * m) (hk : b < 2 ^ k) : binV .or (.int .i32 (a : Int)) (.int .i32 (b : Int)) = some (.int .i32 ((a + b : Nat) : Int)) := by
  show some (AV.int .i32 (IntKind.i32.wrap ((BitVec.ofInt 32 a ||| BitVec.ofInt 32 b).toNat : Int))) = _
  have hx : (BitVec.ofInt 32 (a : Int) ||| BitVec.ofInt 32 (b : Int)).toNat = a + b := by
    rw [BitVec.toNat_or, BitVec.toNat_ofInt, BitVec.toNat_ofInt]
    have q1 : ((a : Int) % ((2 ^ 32 : Nat) : Int)).toNat = a := by omega
    have q2 : ((b : Int) % ((2 ^ 32 : Nat) : Int)).toNat = b := by omega
    rw [q1, q2, hm, ← Nat.two_pow_add_eq_or_of_lt hk]
  rw [hx]
  congr 2
  rw [IntKind.wrap_i32]
  omega
theorem w32 (n : Nat) (h : n < 4194304) : IntKind.i32.wrap (n : Int) = (n : Int) := by rw [IntKind.wrap_i32]; omega
theorem ev1_loadA (n : Option Nat) (s : St) (cs : List AV) : loadR s n (.rp cs) = pR s (Ab.cut cs 0 n) := (id rfl)
def decA (d : Nat × Nat) : AV := .tup [.int .i32 (d.1 : Int), .int .i64 (d.2 : Int)]
theorem ixs_getD (b : UInt8) (t : List UInt8) (k : Nat) (h : k < t.length) : ixsV (.str (b :: t)) (.int .i64 ((k + 1 : Nat) : Int)) = some (.int .u8 ((t.getD k 0).toNat : Int)) := by
  have := ixsV_at (b :: t) (k + 1) (by simp; omega)
  rw [this, List.getD_eq_getElem?_getD, List.getElem?_eq_getElem h]
  rfl
theorem slow_val (k : Nat) (b : UInt8) (t : List UInt8) (hl : t.length ≤ 1000) (hx : firstT b.toNat < 240) (hac : firstT b.toNat / 16 < 5) (hs2 : 2 ≤ firstT b.toNat % 8) (hs4 : firstT b.toNat % 8 ≤ 4) :
    valR (evT (k + 1) 75 [.str (b :: t)] St.nil) = some (decA (slowN (t.length + 1) b.toNat (t.getD 0 0).toNat (t.getD 1 0).toNat (t.getD 2 0).toNat (firstT b.toNat % 8) (accLo (firstT b.toNat / 16)) (accHi (firstT b.toNat / 16)))) := by
  rw [evT_in rfl tab75, show St.nil = St.nil.pl [] from rfl]
  have lx : lensV' (.str (b :: t)) = some (.int .i64 ((t.length + 1 : Nat) : Int)) := rfl
  have i0 : ixsV (.str (b :: t)) (.int .i64 0) = some (.int .u8 (b.toNat : Int)) := ixsV_at (b :: t) 0 (by simp)
  have i1 : 0 < t.length → ixsV (.str (b :: t)) (.int .i64 1) = some (.int .u8 ((t.getD 0 0).toNat : Int)) := ixs_getD b t 0
  have i2 : 1 < t.length → ixsV (.str (b :: t)) (.int .i64 2) = some (.int .u8 ((t.getD 1 0).toNat : Int)) := ixs_getD b t 1
  have i3 : 2 < t.length → ixsV (.str (b :: t)) (.int .i64 3) = some (.int .u8 ((t.getD 2 0).toNat : Int)) := ixs_getD b t 2
  have hb := b.toNat_lt
  have h1 := (t.getD 0 0).toNat_lt
  have h2 := (t.getD 1 0).toNat_lt
  have h3 := (t.getD 2 0).toNat_lt
  obtain ⟨cs, f1, f2⟩ := first_at b.toNat hb
  generalize firstT b.toNat = x at *
  obtain ⟨ds, a1, a2⟩ := acc_at (x / 16) hac
  have s1 := u8_and7 x (by omega)
  have s2 := u8_shr4 x (by omega)
  generalize accLo (x / 16) = lo at *
  generalize accHi (x / 16) = hi at *
  generalize b.toNat = b0 at *
  generalize (t.getD 0 0).toNat = b1 at *
  generalize (t.getD 1 0).toNat = b2 at *
  generalize (t.getD 2 0).toNat = b3 at *
  have d0 : decide (((t.length + 1 : Nat) : Int) < 1) = false := decide_eq_false (by omega)
  have d1 : decide ((x : Int) ≥ 240) = false := decide_eq_false (by omega)
  obtain ⟨sz, hsz⟩ : ∃ sz, x % 8 = sz := ⟨_, rfl⟩
  rw [hsz] at s1 hs2 hs4 ⊢
  have w1 : IntKind.i64.wrap (sz : Int) = (sz : Int) := wrapI _ (by omega) (by omega)
  unfold slowN
  by_cases c1 : t.length + 1 < sz
  · have q1 : decide (((t.length + 1 : Nat) : Int) < (sz : Nat)) = true := decide_eq_true (by omega)
    rw [if_pos c1]
    simp only [M75, i0, q1, decA, lx, d0, f1, f2, d1, a1, a2, s1, s2, w1, ev1_ixpV, ev1_loadA, ev1_ixsV, ev1_lensV', u8_lss', u8_geq', conv_int, i64_leq, qES0, qES1, qES2, env0, List.length_cons, List.length_nil, Nat.reduceAdd, Nat.reduceSub, List.replicate, List.cons_append, List.nil_append, opd, Env.put, Env.at, List.set_cons_zero, List.set_cons_succ, List.getD_cons_zero, List.getD_cons_succ, freezeL, resVs, oneOr, Option.map_some, Option.map_none, List.map_cons, List.map_nil, if_true, if_false, Bool.not_true, Bool.not_false, Bool.false_eq_true, reduceIte, decide_true, decide_false, Int.reduceLT, Int.reduceLE, Int.reduceGT, Int.reduceGE, Int.reduceEq, Int.reduceBEq, Int.reduceBNe, load_ptr, ldV_some, cellAt_cells, List.getElem?_cons_zero, List.getElem?_cons_succ, store_ptr, stO_some, setAt_0, setAt_1, setAt_2, setAt_3, setAt_4, setAt_5, setAt_6, setAt_7, setAt_8, setAt_9, setAt_10, setAt_11, setAt_12, cells_int, cells_bool, cells_str, cells_nils, cells_nilp, cells_ptr, cells_sl, cells_u8, cells_u16, cells_agg, get_upd_is, Option.isSome_some, upd_upd, ev1_nchkV, ev1_faV, nchkV_ptr, faV_ptr, ev1_extV, extV_tup, eqptr_nil, eqptr_ptr, Nat.zero_add, Nat.add_zero, qPL0, qPL1, qPL2, qPL3, qPL4, qPL5, beq_self_eq_true]
    rfl
  · have q1 : decide (((t.length + 1 : Nat) : Int) < (sz : Nat)) = false := decide_eq_false (by omega)
    rw [if_neg c1]
    have i1 := i1 (by omega)
    by_cases c2 : b1 < lo ∨ hi < b1
    · rw [if_pos c2]
      by_cases c2a : b1 < lo
      · have q2 : decide ((b1 : Int) < (lo : Nat)) = true := decide_eq_true (by omega)
        simp only [M75, i0, i1, q1, q2, decA, lx, d0, f1, f2, d1, a1, a2, s1, s2, w1, ev1_ixpV, ev1_loadA, ev1_ixsV, ev1_lensV', u8_lss', u8_geq', conv_int, i64_leq, qES0, qES1, qES2, env0, List.length_cons, List.length_nil, Nat.reduceAdd, Nat.reduceSub, List.replicate, List.cons_append, List.nil_append, opd, Env.put, Env.at, List.set_cons_zero, List.set_cons_succ, List.getD_cons_zero, List.getD_cons_succ, freezeL, resVs, oneOr, Option.map_some, Option.map_none, List.map_cons, List.map_nil, if_true, if_false, Bool.not_true, Bool.not_false, Bool.false_eq_true, reduceIte, decide_true, decide_false, Int.reduceLT, Int.reduceLE, Int.reduceGT, Int.reduceGE, Int.reduceEq, Int.reduceBEq, Int.reduceBNe, load_ptr, ldV_some, cellAt_cells, List.getElem?_cons_zero, List.getElem?_cons_succ, store_ptr, stO_some, setAt_0, setAt_1, setAt_2, setAt_3, setAt_4, setAt_5, setAt_6, setAt_7, setAt_8, setAt_9, setAt_10, setAt_11, setAt_12, cells_int, cells_bool, cells_str, cells_nils, cells_nilp, cells_ptr, cells_sl, cells_u8, cells_u16, cells_agg, get_upd_is, Option.isSome_some, upd_upd, ev1_nchkV, ev1_faV, nchkV_ptr, faV_ptr, ev1_extV, extV_tup, eqptr_nil, eqptr_ptr, Nat.zero_add, Nat.add_zero, qPL0, qPL1, qPL2, qPL3, qPL4, qPL5, beq_self_eq_true]
        rfl
      · have q2 : decide ((b1 : Int) < (lo : Nat)) = false := decide_eq_false (by omega)
        have q3 : decide ((hi : Int) < (b1 : Nat)) = true := decide_eq_true (by omega)
        simp only [M75, i0, i1, q1, q2, q3, decA, lx, d0, f1, f2, d1, a1, a2, s1, s2, w1, ev1_ixpV, ev1_loadA, ev1_ixsV, ev1_lensV', u8_lss', u8_geq', conv_int, i64_leq, qES0, qES1, qES2, env0, List.length_cons, List.length_nil, Nat.reduceAdd, Nat.reduceSub, List.replicate, List.cons_append, List.nil_append, opd, Env.put, Env.at, List.set_cons_zero, List.set_cons_succ, List.getD_cons_zero, List.getD_cons_succ, freezeL, resVs, oneOr, Option.map_some, Option.map_none, List.map_cons, List.map_nil, if_true, if_false, Bool.not_true, Bool.not_false, Bool.false_eq_true, reduceIte, decide_true, decide_false, Int.reduceLT, Int.reduceLE, Int.reduceGT, Int.reduceGE, Int.reduceEq, Int.reduceBEq, Int.reduceBNe, load_ptr, ldV_some, cellAt_cells, List.getElem?_cons_zero, List.getElem?_cons_succ, store_ptr, stO_some, setAt_0, setAt_1, setAt_2, setAt_3, setAt_4, setAt_5, setAt_6, setAt_7, setAt_8, setAt_9, setAt_10, setAt_11, setAt_12, cells_int, cells_bool, cells_str, cells_nils, cells_nilp, cells_ptr, cells_sl, cells_u8, cells_u16, cells_agg, get_upd_is, Option.isSome_some, upd_upd, ev1_nchkV, ev1_faV, nchkV_ptr, faV_ptr, ev1_extV, extV_tup, eqptr_nil, eqptr_ptr, Nat.zero_add, Nat.add_zero, qPL0, qPL1, qPL2, qPL3, qPL4, qPL5, beq_self_eq_true]
        rfl
    · have q2 : decide ((b1 : Int) < (lo : Nat)) = false := decide_eq_false (by omega)
      have q3 : decide ((hi : Int) < (b1 : Nat)) = false := decide_eq_false (by omega)
      rw [if_neg c2]
      have m1 := u8_and63 b1 h1
      have v1 := w32 (b1 % 64) (by omega)
      by_cases c3 : sz ≤ 2
      · have q4 : decide ((sz : Int) ≤ 2) = true := decide_eq_true (by omega)
        have m0 := u8_and31 b0 hb
        have v0 := w32 (b0 % 32) (by omega)
        have r0 := i32_shl6 (b0 % 32) (by omega)
        have o0 := i32_or (b0 % 32 * 64) (b1 % 64) (by omega) (by omega) (b0 % 32) 6 (by omega) (by omega)
        rw [if_pos c3]
        simp only [M75, i0, i1, q1, q2, q3, q4, m0, m1, v0, v1, r0, o0, decA, lx, d0, f1, f2, d1, a1, a2, s1, s2, w1, ev1_ixpV, ev1_loadA, ev1_ixsV, ev1_lensV', u8_lss', u8_geq', conv_int, i64_leq, qES0, qES1, qES2, env0, List.length_cons, List.length_nil, Nat.reduceAdd, Nat.reduceSub, List.replicate, List.cons_append, List.nil_append, opd, Env.put, Env.at, List.set_cons_zero, List.set_cons_succ, List.getD_cons_zero, List.getD_cons_succ, freezeL, resVs, oneOr, Option.map_some, Option.map_none, List.map_cons, List.map_nil, if_true, if_false, Bool.not_true, Bool.not_false, Bool.false_eq_true, reduceIte, decide_true, decide_false, Int.reduceLT, Int.reduceLE, Int.reduceGT, Int.reduceGE, Int.reduceEq, Int.reduceBEq, Int.reduceBNe, load_ptr, ldV_some, cellAt_cells, List.getElem?_cons_zero, List.getElem?_cons_succ, store_ptr, stO_some, setAt_0, setAt_1, setAt_2, setAt_3, setAt_4, setAt_5, setAt_6, setAt_7, setAt_8, setAt_9, setAt_10, setAt_11, setAt_12, cells_int, cells_bool, cells_str, cells_nils, cells_nilp, cells_ptr, cells_sl, cells_u8, cells_u16, cells_agg, get_upd_is, Option.isSome_some, upd_upd, ev1_nchkV, ev1_faV, nchkV_ptr, faV_ptr, ev1_extV, extV_tup, eqptr_nil, eqptr_ptr, Nat.zero_add, Nat.add_zero, qPL0, qPL1, qPL2, qPL3, qPL4, qPL5, beq_self_eq_true]
        rfl
      · have q4 : decide ((sz : Int) ≤ 2) = false := decide_eq_false (by omega)
        rw [if_neg c3]
        have i2 := i2 (by omega)
        have m2 := u8_and63 b2 h2
        have v2 := w32 (b2 % 64) (by omega)
        by_cases c4 : b2 < 128 ∨ 191 < b2
        · rw [if_pos c4]
          by_cases c4a : b2 < 128
          · have q5 : decide ((b2 : Int) < 128) = true := decide_eq_true (by omega)
            simp only [M75, i0, i1, i2, q1, q2, q3, q4, q5, decA, lx, d0, f1, f2, d1, a1, a2, s1, s2, w1, ev1_ixpV, ev1_loadA, ev1_ixsV, ev1_lensV', u8_lss', u8_geq', conv_int, i64_leq, qES0, qES1, qES2, env0, List.length_cons, List.length_nil, Nat.reduceAdd, Nat.reduceSub, List.replicate, List.cons_append, List.nil_append, opd, Env.put, Env.at, List.set_cons_zero, List.set_cons_succ, List.getD_cons_zero, List.getD_cons_succ, freezeL, resVs, oneOr, Option.map_some, Option.map_none, List.map_cons, List.map_nil, if_true, if_false, Bool.not_true, Bool.not_false, Bool.false_eq_true, reduceIte, decide_true, decide_false, Int.reduceLT, Int.reduceLE, Int.reduceGT, Int.reduceGE, Int.reduceEq, Int.reduceBEq, Int.reduceBNe, load_ptr, ldV_some, cellAt_cells, List.getElem?_cons_zero, List.getElem?_cons_succ, store_ptr, stO_some, setAt_0, setAt_1, setAt_2, setAt_3, setAt_4, setAt_5, setAt_6, setAt_7, setAt_8, setAt_9, setAt_10, setAt_11, setAt_12, cells_int, cells_bool, cells_str, cells_nils, cells_nilp, cells_ptr, cells_sl, cells_u8, cells_u16, cells_agg, get_upd_is, Option.isSome_some, upd_upd, ev1_nchkV, ev1_faV, nchkV_ptr, faV_ptr, ev1_extV, extV_tup, eqptr_nil, eqptr_ptr, Nat.zero_add, Nat.add_zero, qPL0, qPL1, qPL2, qPL3, qPL4, qPL5, beq_self_eq_true]
            rfl
          · have q5 : decide ((b2 : Int) < 128) = false := decide_eq_false (by omega)
            have q6 : decide (191 < (b2 : Int)) = true := decide_eq_true (by omega)
            simp only [M75, i0, i1, i2, q1, q2, q3, q4, q5, q6, decA, lx, d0, f1, f2, d1, a1, a2, s1, s2, w1, ev1_ixpV, ev1_loadA, ev1_ixsV, ev1_lensV', u8_lss', u8_geq', conv_int, i64_leq, qES0, qES1, qES2, env0, List.length_cons, List.length_nil, Nat.reduceAdd, Nat.reduceSub, List.replicate, List.cons_append, List.nil_append, opd, Env.put, Env.at, List.set_cons_zero, List.set_cons_succ, List.getD_cons_zero, List.getD_cons_succ, freezeL, resVs, oneOr, Option.map_some, Option.map_none, List.map_cons, List.map_nil, if_true, if_false, Bool.not_true, Bool.not_false, Bool.false_eq_true, reduceIte, decide_true, decide_false, Int.reduceLT, Int.reduceLE, Int.reduceGT, Int.reduceGE, Int.reduceEq, Int.reduceBEq, Int.reduceBNe, load_ptr, ldV_some, cellAt_cells, List.getElem?_cons_zero, List.getElem?_cons_succ, store_ptr, stO_some, setAt_0, setAt_1, setAt_2, setAt_3, setAt_4, setAt_5, setAt_6, setAt_7, setAt_8, setAt_9, setAt_10, setAt_11, setAt_12, cells_int, cells_bool, cells_str, cells_nils, cells_nilp, cells_ptr, cells_sl, cells_u8, cells_u16, cells_agg, get_upd_is, Option.isSome_some, upd_upd, ev1_nchkV, ev1_faV, nchkV_ptr, faV_ptr, ev1_extV, extV_tup, eqptr_nil, eqptr_ptr, Nat.zero_add, Nat.add_zero, qPL0, qPL1, qPL2, qPL3, qPL4, qPL5, beq_self_eq_true]
            rfl
        · have q5 : decide ((b2 : Int) < 128) = false := decide_eq_false (by omega)
          have q6 : decide (191 < (b2 : Int)) = false := decide_eq_false (by omega)
          rw [if_neg c4]
          by_cases c5 : sz ≤ 3
          · have q7 : decide ((sz : Int) ≤ 3) = true := decide_eq_true (by omega)
            have m0 := u8_and15 b0 hb
            have v0 := w32 (b0 % 16) (by omega)
            have r0 := i32_shl12 (b0 % 16) (by omega)
            have r1 := i32_shl6 (b1 % 64) (by omega)
            have o0 := i32_or (b0 % 16 * 4096) (b1 % 64 * 64) (by omega) (by omega) (b0 % 16) 12 (by omega) (by omega)
            have o1 := i32_or (b0 % 16 * 4096 + b1 % 64 * 64) (b2 % 64) (by omega) (by omega) (b0 % 16 * 64 + b1 % 64) 6 (by omega) (by omega)
            rw [if_pos c5]
            simp only [M75, i0, i1, i2, q1, q2, q3, q4, q5, q6, q7, m0, m1, m2, v0, v1, v2, r0, r1, o0, o1, decA, lx, d0, f1, f2, d1, a1, a2, s1, s2, w1, ev1_ixpV, ev1_loadA, ev1_ixsV, ev1_lensV', u8_lss', u8_geq', conv_int, i64_leq, qES0, qES1, qES2, env0, List.length_cons, List.length_nil, Nat.reduceAdd, Nat.reduceSub, List.replicate, List.cons_append, List.nil_append, opd, Env.put, Env.at, List.set_cons_zero, List.set_cons_succ, List.getD_cons_zero, List.getD_cons_succ, freezeL, resVs, oneOr, Option.map_some, Option.map_none, List.map_cons, List.map_nil, if_true, if_false, Bool.not_true, Bool.not_false, Bool.false_eq_true, reduceIte, decide_true, decide_false, Int.reduceLT, Int.reduceLE, Int.reduceGT, Int.reduceGE, Int.reduceEq, Int.reduceBEq, Int.reduceBNe, load_ptr, ldV_some, cellAt_cells, List.getElem?_cons_zero, List.getElem?_cons_succ, store_ptr, stO_some, setAt_0, setAt_1, setAt_2, setAt_3, setAt_4, setAt_5, setAt_6, setAt_7, setAt_8, setAt_9, setAt_10, setAt_11, setAt_12, cells_int, cells_bool, cells_str, cells_nils, cells_nilp, cells_ptr, cells_sl, cells_u8, cells_u16, cells_agg, get_upd_is, Option.isSome_some, upd_upd, ev1_nchkV, ev1_faV, nchkV_ptr, faV_ptr, ev1_extV, extV_tup, eqptr_nil, eqptr_ptr, Nat.zero_add, Nat.add_zero, qPL0, qPL1, qPL2, qPL3, qPL4, qPL5, beq_self_eq_true]
            rfl
          · have q7 : decide ((sz : Int) ≤ 3) = false := decide_eq_false (by omega)
            rw [if_neg c5]
            have i3 := i3 (by omega)
            have m3 := u8_and63 b3 h3
            have v3 := w32 (b3 % 64) (by omega)
            by_cases c6 : b3 < 128 ∨ 191 < b3
            · rw [if_pos c6]
              by_cases c6a : b3 < 128
              · have q8 : decide ((b3 : Int) < 128) = true := decide_eq_true (by omega)
                simp only [M75, i0, i1, i2, i3, q1, q2, q3, q4, q5, q6, q7, q8, decA, lx, d0, f1, f2, d1, a1, a2, s1, s2, w1, ev1_ixpV, ev1_loadA, ev1_ixsV, ev1_lensV', u8_lss', u8_geq', conv_int, i64_leq, qES0, qES1, qES2, env0, List.length_cons, List.length_nil, Nat.reduceAdd, Nat.reduceSub, List.replicate, List.cons_append, List.nil_append, opd, Env.put, Env.at, List.set_cons_zero, List.set_cons_succ, List.getD_cons_zero, List.getD_cons_succ, freezeL, resVs, oneOr, Option.map_some, Option.map_none, List.map_cons, List.map_nil, if_true, if_false, Bool.not_true, Bool.not_false, Bool.false_eq_true, reduceIte, decide_true, decide_false, Int.reduceLT, Int.reduceLE, Int.reduceGT, Int.reduceGE, Int.reduceEq, Int.reduceBEq, Int.reduceBNe, load_ptr, ldV_some, cellAt_cells, List.getElem?_cons_zero, List.getElem?_cons_succ, store_ptr, stO_some, setAt_0, setAt_1, setAt_2, setAt_3, setAt_4, setAt_5, setAt_6, setAt_7, setAt_8, setAt_9, setAt_10, setAt_11, setAt_12, cells_int, cells_bool, cells_str, cells_nils, cells_nilp, cells_ptr, cells_sl, cells_u8, cells_u16, cells_agg, get_upd_is, Option.isSome_some, upd_upd, ev1_nchkV, ev1_faV, nchkV_ptr, faV_ptr, ev1_extV, extV_tup, eqptr_nil, eqptr_ptr, Nat.zero_add, Nat.add_zero, qPL0, qPL1, qPL2, qPL3, qPL4, qPL5, beq_self_eq_true]
                rfl
              · have q8 : decide ((b3 : Int) < 128) = false := decide_eq_false (by omega)
                have q9 : decide (191 < (b3 : Int)) = true := decide_eq_true (by omega)
                simp only [M75, i0, i1, i2, i3, q1, q2, q3, q4, q5, q6, q7, q8, q9, decA, lx, d0, f1, f2, d1, a1, a2, s1, s2, w1, ev1_ixpV, ev1_loadA, ev1_ixsV, ev1_lensV', u8_lss', u8_geq', conv_int, i64_leq, qES0, qES1, qES2, env0, List.length_cons, List.length_nil, Nat.reduceAdd, Nat.reduceSub, List.replicate, List.cons_append, List.nil_append, opd, Env.put, Env.at, List.set_cons_zero, List.set_cons_succ, List.getD_cons_zero, List.getD_cons_succ, freezeL, resVs, oneOr, Option.map_some, Option.map_none, List.map_cons, List.map_nil, if_true, if_false, Bool.not_true, Bool.not_false, Bool.false_eq_true, reduceIte, decide_true, decide_false, Int.reduceLT, Int.reduceLE, Int.reduceGT, Int.reduceGE, Int.reduceEq, Int.reduceBEq, Int.reduceBNe, load_ptr, ldV_some, cellAt_cells, List.getElem?_cons_zero, List.getElem?_cons_succ, store_ptr, stO_some, setAt_0, setAt_1, setAt_2, setAt_3, setAt_4, setAt_5, setAt_6, setAt_7, setAt_8, setAt_9, setAt_10, setAt_11, setAt_12, cells_int, cells_bool, cells_str, cells_nils, cells_nilp, cells_ptr, cells_sl, cells_u8, cells_u16, cells_agg, get_upd_is, Option.isSome_some, upd_upd, ev1_nchkV, ev1_faV, nchkV_ptr, faV_ptr, ev1_extV, extV_tup, eqptr_nil, eqptr_ptr, Nat.zero_add, Nat.add_zero, qPL0, qPL1, qPL2, qPL3, qPL4, qPL5, beq_self_eq_true]
                rfl
            · have q8 : decide ((b3 : Int) < 128) = false := decide_eq_false (by omega)
              have q9 : decide (191 < (b3 : Int)) = false := decide_eq_false (by omega)
              rw [if_neg c6]
              have m0 := u8_and7 b0 hb
              have v0 := w32 (b0 % 8) (by omega)
              have r0 := i32_shl18 (b0 % 8) (by omega)
              have r1 := i32_shl12 (b1 % 64) (by omega)
              have r2 := i32_shl6 (b2 % 64) (by omega)
              have o0 := i32_or (b0 % 8 * 262144) (b1 % 64 * 4096) (by omega) (by omega) (b0 % 8) 18 (by omega) (by omega)
              have o1 := i32_or (b0 % 8 * 262144 + b1 % 64 * 4096) (b2 % 64 * 64) (by omega) (by omega) (b0 % 8 * 64 + b1 % 64) 12 (by omega) (by omega)
              have o2 := i32_or (b0 % 8 * 262144 + b1 % 64 * 4096 + b2 % 64 * 64) (b3 % 64) (by omega) (by omega) (b0 % 8 * 4096 + b1 % 64 * 64 + b2 % 64) 6 (by omega) (by omega)
              simp only [M75, i0, i1, i2, i3, q1, q2, q3, q4, q5, q6, q7, q8, q9, m0, m1, m2, m3, v0, v1, v2, v3, r0, r1, r2, o0, o1, o2, decA, lx, d0, f1, f2, d1, a1, a2, s1, s2, w1, ev1_ixpV, ev1_loadA, ev1_ixsV, ev1_lensV', u8_lss', u8_geq', conv_int, i64_leq, qES0, qES1, qES2, env0, List.length_cons, List.length_nil, Nat.reduceAdd, Nat.reduceSub, List.replicate, List.cons_append, List.nil_append, opd, Env.put, Env.at, List.set_cons_zero, List.set_cons_succ, List.getD_cons_zero, List.getD_cons_succ, freezeL, resVs, oneOr, Option.map_some, Option.map_none, List.map_cons, List.map_nil, if_true, if_false, Bool.not_true, Bool.not_false, Bool.false_eq_true, reduceIte, decide_true, decide_false, Int.reduceLT, Int.reduceLE, Int.reduceGT, Int.reduceGE, Int.reduceEq, Int.reduceBEq, Int.reduceBNe, load_ptr, ldV_some, cellAt_cells, List.getElem?_cons_zero, List.getElem?_cons_succ, store_ptr, stO_some, setAt_0, setAt_1, setAt_2, setAt_3, setAt_4, setAt_5, setAt_6, setAt_7, setAt_8, setAt_9, setAt_10, setAt_11, setAt_12, cells_int, cells_bool, cells_str, cells_nils, cells_nilp, cells_ptr, cells_sl, cells_u8, cells_u16, cells_agg, get_upd_is, Option.isSome_some, upd_upd, ev1_nchkV, ev1_faV, nchkV_ptr, faV_ptr, ev1_extV, extV_tup, eqptr_nil, eqptr_ptr, Nat.zero_add, Nat.add_zero, qPL0, qPL1, qPL2, qPL3, qPL4, qPL5, beq_self_eq_true]
              rfl
theorem andnot_m1 (c : Nat) (h : c < 256) : binV .andNot (.int .i32 (c : Int)) (.int .i32 (-1)) = some (.int .i32 0) :=
  map_on (f := fun c : Nat => binV .andNot (.int .i32 (c : Int)) (.int .i32 (-1))) (g := fun c : Nat => some (.int .i32 0)) (n := 256) (by kernel_rfl) c h
theorem slow_bad (k : Nat) (b : UInt8) (t : List UInt8) (hx : firstT b.toNat = 241) : valR (evT (k + 1) 75 [.str (b :: t)] St.nil) = some (decA (65533, 1)) := by
  rw [evT_in rfl tab75, show St.nil = St.nil.pl [] from rfl]
  have lx : lensV' (.str (b :: t)) = some (.int .i64 ((t.length + 1 : Nat) : Int)) := rfl
  have i0 : ixsV (.str (b :: t)) (.int .i64 0) = some (.int .u8 (b.toNat : Int)) := ixsV_at (b :: t) 0 (by simp)
  have hb := b.toNat_lt
  obtain ⟨cs, f1, f2⟩ := first_at b.toNat hb
  rw [hx] at f2
  have d0 : decide (((t.length + 1 : Nat) : Int) < 1) = false := decide_eq_false (by omega)
  have m0 := andnot_m1 b.toNat hb
  have v0 := w32 b.toNat (by omega)
  generalize b.toNat = b0 at *
  have f2 : Ab.cut cs 0 none = some (.int .u8 241) := f2
  have d1 : decide ((241 : Int) ≥ 240) = true := rfl
  have e0 : IntKind.i32.wrap 241 = 241 := by rw [IntKind.wrap_i32]; rfl
  have e1 : binV .shl (.int .i32 241) (.int .u64 31) = some (.int .i32 (-2147483648)) := by kernel_rfl
  have e2 : binV .shr (.int .i32 (-2147483648)) (.int .u64 31) = some (.int .i32 (-1)) := by kernel_rfl
  have e3 : binV .and (.int .i32 65533) (.int .i32 (-1)) = some (.int .i32 65533) := by kernel_rfl
  have e4 : binV .or (.int .i32 0) (.int .i32 65533) = some (.int .i32 65533) := by kernel_rfl
  simp only [M75, i0, lx, d0, f1, f2, d1, e0, e1, e2, e3, e4, m0, v0, decA, ev1_ixpV, ev1_loadA, ev1_ixsV, ev1_lensV', u8_geq', conv_int, qES0, qES1, qES2, env0, List.length_cons, List.length_nil, Nat.reduceAdd, Nat.reduceSub, List.replicate, List.cons_append, List.nil_append, opd, Env.put, Env.at, List.set_cons_zero, List.set_cons_succ, List.getD_cons_zero, List.getD_cons_succ, freezeL, resVs, oneOr, Option.map_some, Option.map_none, List.map_cons, List.map_nil, if_true, if_false, Bool.not_true, Bool.not_false, Bool.false_eq_true, reduceIte, decide_true, decide_false, Int.reduceLT, Int.reduceLE, Int.reduceGT, Int.reduceGE, Int.reduceEq, Int.reduceBEq, Int.reduceBNe, load_ptr, ldV_some, cellAt_cells, List.getElem?_cons_zero, List.getElem?_cons_succ, store_ptr, stO_some, setAt_0, setAt_1, setAt_2, setAt_3, setAt_4, setAt_5, setAt_6, setAt_7, setAt_8, setAt_9, setAt_10, setAt_11, setAt_12, cells_int, cells_bool, cells_str, cells_nils, cells_nilp, cells_ptr, cells_sl, cells_u8, cells_u16, cells_agg, get_upd_is, Option.isSome_some, upd_upd, ev1_nchkV, ev1_faV, nchkV_ptr, faV_ptr, ev1_extV, extV_tup, eqptr_nil, eqptr_ptr, Nat.zero_add, Nat.add_zero, qPL0, qPL1, qPL2, qPL3, qPL4, qPL5, beq_self_eq_true]
  rfl
theorem first_cases (b : Nat) (hb : b < 256) (h : 128 ≤ b) : (firstT b = 241 ∧ (b < 194 ∨ 245 ≤ b)) ∨ (firstT b < 240 ∧ firstT b / 16 < 5 ∧ 2 ≤ firstT b % 8 ∧ firstT b % 8 ≤ 4) := by
  unfold firstT
  rw [if_neg (by omega)]
  by_cases h1 : b < 194
  · rw [if_pos h1]; exact .inl ⟨rfl, .inl h1⟩
  · rw [if_neg h1]
    by_cases h2 : b < 224
    · rw [if_pos h2]; exact .inr (by decide)
    · rw [if_neg h2]
      by_cases h3 : b = 224
      · rw [if_pos h3]; exact .inr (by decide)
      · rw [if_neg h3]
        by_cases h4 : b < 237
        · rw [if_pos h4]; exact .inr (by decide)
        · rw [if_neg h4]
          by_cases h5 : b = 237
          · rw [if_pos h5]; exact .inr (by decide)
          · rw [if_neg h5]
            by_cases h6 : b < 240
            · rw [if_pos h6]; exact .inr (by decide)
            · rw [if_neg h6]
              by_cases h7 : b = 240
              · rw [if_pos h7]; exact .inr (by decide)
              · rw [if_neg h7]
                by_cases h8 : b < 244
                · rw [if_pos h8]; exact .inr (by decide)
                · rw [if_neg h8]
                  by_cases h9 : b = 244
                  · rw [if_pos h9]; exact .inr (by decide)
                  · rw [if_neg h9]; exact .inl ⟨rfl, .inr (by omega)⟩
theorem dec_nolead (b : UInt8) (t : List UInt8) (h : b.toNat < 194 ∨ 245 ≤ b.toNat) (h1 : 128 ≤ b.toNat) : decT b t = (65533, 1) := by
  have hb := b.toNat_lt
  have h2 : ((t.getD 0 0).toNat) < 256 := (t.getD 0 0).toNat_lt
  have h3 : ((t.getD 1 0).toNat) < 256 := (t.getD 1 0).toNat_lt
  have h4 : ((t.getD 2 0).toNat) < 256 := (t.getD 2 0).toNat_lt
  unfold decT decodeN
  generalize b.toNat = b0 at *
  generalize (t.getD 0 0).toNat = b1 at *
  generalize (t.getD 1 0).toNat = b2 at *
  generalize (t.getD 2 0).toNat = b3 at *
  repeat' split
  all_goals first | (exfalso; omega) | rfl
theorem dry_two {v : AV} {k k' : IntKind} {a b : Int} (h : dryV v = .tup [.int k a, .int k' b]) : v = .tup [.int k a, .int k' b] := by
  have d1 : ∀ {x : AV} {k a}, dry1 x = .int k a → x = .int k a := by
    intro x k a h
    cases x <;> first | exact h | cases h
  cases v with
  | tup l =>
    have h' : l.map dry1 = [.int k a, .int k' b] := by simpa [dryV] using h
    match l, h' with
    | [x, y], h' =>
      simp only [List.map_cons, List.map_nil, List.cons.injEq, and_true] at h'
      rw [d1 h'.1, d1 h'.2]
    | [], h' => exact absurd (congrArg List.length h') (by simp)
    | [x], h' => exact absurd (congrArg List.length h') (by simp)
    | x :: y :: z :: r, h' => exact absurd (congrArg List.length h') (by simp)
  | sl cs n t => cases h
  | _ => cases h
theorem drs_val (b : UInt8) (t : List UInt8) (hl : t.length ≤ 1000) : valR (evT 1000 65 [.str (b :: t)] St.nil) = some (decA (decT b t)) := by
  have hb := b.toNat_lt
  have i0 : ixsV (.str (b :: t)) (.int .i64 0) = some (.int .u8 (b.toNat : Int)) := ixsV_at (b :: t) 0 (by simp)
  have ne : binV .neq (.str (b :: t)) (.str []) = some (.bool true) := rfl
  have v0 := w32 b.toNat (by omega)
  by_cases h : b.toNat < 128
  · rw [dec_ascii b t h, show (1000 : Nat) = 999 + 1 from rfl, evT_in rfl tab65, show St.nil = St.nil.pl [] from rfl]
    have d0 : decide ((b.toNat : Int) < 128) = true := decide_eq_true (by omega)
    generalize b.toNat = b0 at *
    simp only [M65, i0, ne, d0, v0, decA, u8_lss', conv_int, ev1_ixsV, qES0, qES1, qES2, env0, List.length_cons, List.length_nil, Nat.reduceAdd, Nat.reduceSub, List.replicate, List.cons_append, List.nil_append, opd, Env.put, Env.at, List.set_cons_zero, List.set_cons_succ, List.getD_cons_zero, List.getD_cons_succ, freezeL, resVs, oneOr, Option.map_some, Option.map_none, List.map_cons, List.map_nil, if_true, if_false, Bool.not_true, Bool.not_false, Bool.false_eq_true, reduceIte, decide_true, decide_false, Int.reduceLT, Int.reduceLE, Int.reduceGT, Int.reduceGE, Int.reduceEq, Int.reduceBEq, Int.reduceBNe, load_ptr, ldV_some, cellAt_cells, List.getElem?_cons_zero, List.getElem?_cons_succ, store_ptr, stO_some, setAt_0, setAt_1, setAt_2, setAt_3, setAt_4, setAt_5, setAt_6, setAt_7, setAt_8, setAt_9, setAt_10, setAt_11, setAt_12, cells_int, cells_bool, cells_str, cells_nils, cells_nilp, cells_ptr, cells_sl, cells_u8, cells_u16, cells_agg, get_upd_is, Option.isSome_some, upd_upd, ev1_nchkV, ev1_faV, nchkV_ptr, faV_ptr, ev1_extV, extV_tup, eqptr_nil, eqptr_ptr, Nat.zero_add, Nat.add_zero, qPL0, qPL1, qPL2, qPL3, qPL4, qPL5, beq_self_eq_true]
    rfl
  · have d0 : decide ((b.toNat : Int) < 128) = false := decide_eq_false (by omega)
    have hs : valR (evT 999 75 [.str (b :: t)] St.nil) = some (decA (decT b t)) := by
      rcases first_cases b.toNat hb (by omega) with ⟨h1, h2⟩ | ⟨h1, h2, h3, h4⟩
      · rw [dec_nolead b t h2 (by omega)]; exact slow_bad 998 b t h1
      · rw [show (999 : Nat) = 998 + 1 from rfl, slow_val 998 b t hl h1 h2 h3 h4, slow_eq _ _ _ _ _ (by omega) (t.getD 0 0).toNat_lt (t.getD 1 0).toNat_lt (t.getD 2 0).toNat_lt h1]
        rfl
    obtain ⟨v, s', h1, h2⟩ := valR_of hs
    have h3 := dry_two h2
    subst h3
    rw [show (1000 : Nat) = 999 + 1 from rfl, evT_in rfl tab65]
    have h1' : evT 999 75 [.str (b :: t)] (St.nil.pl []) = some (.tup [.int .i32 ((decT b t).1 : Int), .int .i64 ((decT b t).2 : Int)], s'.pl []) := h1
    generalize b.toNat = b0 at *
    rw [show St.nil = St.nil.pl [] from rfl]
    simp only [M65, i0, ne, d0, h1', decA, u8_lss', ev1_ixsV, ev1_extV, qES0, qES1, qES2, env0, List.length_cons, List.length_nil, Nat.reduceAdd, Nat.reduceSub, List.replicate, List.cons_append, List.nil_append, opd, Env.put, Env.at, List.set_cons_zero, List.set_cons_succ, List.getD_cons_zero, List.getD_cons_succ, freezeL, resVs, oneOr, Option.map_some, Option.map_none, List.map_cons, List.map_nil, if_true, if_false, Bool.not_true, Bool.not_false, Bool.false_eq_true, reduceIte, decide_true, decide_false, Int.reduceLT, Int.reduceLE, Int.reduceGT, Int.reduceGE, Int.reduceEq, Int.reduceBEq, Int.reduceBNe, load_ptr, ldV_some, cellAt_cells, List.getElem?_cons_zero, List.getElem?_cons_succ, store_ptr, stO_some, setAt_0, setAt_1, setAt_2, setAt_3, setAt_4, setAt_5, setAt_6, setAt_7, setAt_8, setAt_9, setAt_10, setAt_11, setAt_12, cells_int, cells_bool, cells_str, cells_nils, cells_nilp, cells_ptr, cells_sl, cells_u8, cells_u16, cells_agg, get_upd_is, Option.isSome_some, upd_upd, ev1_nchkV, ev1_faV, nchkV_ptr, faV_ptr, ev1_extV, extV_tup, eqptr_nil, eqptr_ptr, Nat.zero_add, Nat.add_zero, qPL0, qPL1, qPL2, qPL3, qPL4, qPL5, beq_self_eq_true]
def hDec : List AV → St → Option AV
  | [.str (b :: t)], _ => if t.length ≤ 1000 then some (decA (decT b t)) else none
  | _, _ => none
theorem puDec : PureOk (evT 1000) 65 hDec := pureOk_of (by
  intro args s v hv
  unfold hDec at hv
  split at hv
  · split at hv
    · rename_i hl
      cases hv
      exact ⟨rfl, rfl, drs_val _ _ hl⟩
    · cases hv
  · cases hv)
end Go.Proofs.YthcblggiojpmcaaDoor
