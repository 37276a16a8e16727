/- Numbers of four bytes; named numbers; as the evaluator answers them. No conditions. -/
import Derived.Test.YtbeimfhodgmjhaaDoorQ12
import Derived.Test.YtbeimfhodgmjhaaDoorM8c
set_option linter.unusedSimpArgs false
set_option linter.unusedVariables false
set_option maxRecDepth 100000
set_option maxHeartbeats 4000000
namespace Go.Proofs.YtbeimfhodgmjhaaDoor
open Go Go.Ab
/-- A number in four bytes, the lowest first; back. -/
def four (n : Int) : List UInt8 := [UInt8.ofNat n.toNat, UInt8.ofNat (n / 256).toNat, UInt8.ofNat (n / 65536).toNat, UInt8.ofNat (n / 16777216).toNat]
def num4 (a b c d : UInt8) : Int := (a.toNat : Int) + b.toNat * 256 + c.toNat * 65536 + d.toNat * 16777216
def is32 (n : Int) : Prop := 0 ≤ n ∧ n < 4294967296
instance (n : Int) : Decidable (is32 n) := inferInstanceAs (Decidable (_ ∧ _))
theorem num4_32 (a b c d : UInt8) : is32 (num4 a b c d) := by
  have := a.toNat_lt; have := b.toNat_lt; have := c.toNat_lt; have := d.toNat_lt
  unfold is32 num4; omega
theorem num4_four (n : Int) (h : is32 n) : num4 (UInt8.ofNat n.toNat) (UInt8.ofNat (n / 256).toNat) (UInt8.ofNat (n / 65536).toNat) (UInt8.ofNat (n / 16777216).toNat) = n := by
  unfold is32 at h
  unfold num4
  simp only [UInt8.toNat_ofNat']
  omega
theorem u8_eq {a : UInt8} {n : Nat} (h : n % 256 = a.toNat) : UInt8.ofNat n = a := by
  apply UInt8.toNat_inj.1
  rw [UInt8.toNat_ofNat', ← h]
theorem four_num4 (a b c d : UInt8) : four (num4 a b c d) = [a, b, c, d] := by
  have := a.toNat_lt; have := b.toNat_lt; have := c.toNat_lt; have := d.toNat_lt
  unfold four num4
  rw [u8_eq (a := a) (by omega), u8_eq (a := b) (by omega), u8_eq (a := c) (by omega), u8_eq (a := d) (by omega)]
theorem four_len (n : Int) : (four n).length = 4 := rfl
theorem u8ofW (n : Int) (h0 : 0 ≤ n) : AV.int .u8 (IntKind.u8.wrap n) = u8v (UInt8.ofNat n.toNat) := by
  have : IntKind.u8.wrap n = n % 256 := by simp only [IntKind.wrap, IntKind.bits, IntKind.signed]; simp
  rw [this]
  show AV.int .u8 (n % 256) = AV.int .u8 ((UInt8.ofNat n.toNat).toNat : Int)
  congr 1
  simp; omega
def nmd (n : Int) : Bool := (n != 0) && (n != 4294967295)
theorem u32_neq (a b : Int) : binV .neq (.int .u32 a) (.int .u32 b) = some (.bool (a != b)) := (id rfl)
theorem own_ev (k : Nat) (n : Int) (s : St) : evK (k + 1) 59 [.int .u32 n] s = some (.bool (nmd n), s) := by
  rw [evK_in rfl tab59]
  unfold nmd
  cases h : (n != 0) <;> simp only [M59, u32_neq, h, Bool.false_and, Bool.true_and, qES0, qES1, qES2, env0, List.length_cons, List.length_nil, Nat.reduceAdd, Nat.reduceSub, List.replicate, List.cons_append, List.nil_append, opd, Env.put, Env.at, List.set_cons_zero, List.set_cons_succ, List.getD_cons_zero, List.getD_cons_succ, freezeL, resVs, oneOr, Option.map_some, Option.map_none, List.map_cons, List.map_nil, if_true, if_false, Bool.not_true, Bool.not_false, Bool.false_eq_true, reduceIte, decide_true, decide_false, Int.reduceLT, Int.reduceLE, Int.reduceGT, Int.reduceGE, Int.reduceEq, Int.reduceBEq, Int.reduceBNe, load_ptr, ldV_some, cellAt_cells, List.getElem?_cons_zero, List.getElem?_cons_succ, store_ptr, stO_some, setAt_0, setAt_1, setAt_2, setAt_3, setAt_4, setAt_5, setAt_6, setAt_7, setAt_8, setAt_9, setAt_10, setAt_11, setAt_12, cells_int, cells_bool, cells_str, cells_nils, cells_nilp, cells_ptr, cells_sl, cells_u8, cells_u16, cells_agg, get_upd_is, Option.isSome_some, upd_upd, ev1_nchkV, ev1_faV, nchkV_ptr, faV_ptr, ev1_extV, extV_tup, eqptr_nil, eqptr_ptr, Nat.zero_add, Nat.add_zero, qPL0, qPL1, qPL2, qPL3, qPL4, qPL5, beq_self_eq_true]
theorem named_ev (k : Nat) (n : Int) (s : St) : evK (k + 1) 94 [.int .u32 n] s = some (.bool (nmd n), s) := by
  rw [evK_in rfl tab94]
  unfold nmd
  cases h : (n != 0) <;> simp only [M94, u32_neq, h, Bool.false_and, Bool.true_and, qES0, qES1, qES2, env0, List.length_cons, List.length_nil, Nat.reduceAdd, Nat.reduceSub, List.replicate, List.cons_append, List.nil_append, opd, Env.put, Env.at, List.set_cons_zero, List.set_cons_succ, List.getD_cons_zero, List.getD_cons_succ, freezeL, resVs, oneOr, Option.map_some, Option.map_none, List.map_cons, List.map_nil, if_true, if_false, Bool.not_true, Bool.not_false, Bool.false_eq_true, reduceIte, decide_true, decide_false, Int.reduceLT, Int.reduceLE, Int.reduceGT, Int.reduceGE, Int.reduceEq, Int.reduceBEq, Int.reduceBNe, load_ptr, ldV_some, cellAt_cells, List.getElem?_cons_zero, List.getElem?_cons_succ, store_ptr, stO_some, setAt_0, setAt_1, setAt_2, setAt_3, setAt_4, setAt_5, setAt_6, setAt_7, setAt_8, setAt_9, setAt_10, setAt_11, setAt_12, cells_int, cells_bool, cells_str, cells_nils, cells_nilp, cells_ptr, cells_sl, cells_u8, cells_u16, cells_agg, get_upd_is, Option.isSome_some, upd_upd, ev1_nchkV, ev1_faV, nchkV_ptr, faV_ptr, ev1_extV, extV_tup, eqptr_nil, eqptr_ptr, Nat.zero_add, Nat.add_zero, qPL0, qPL1, qPL2, qPL3, qPL4, qPL5, beq_self_eq_true]
theorem xnamed_ev (k : Nat) (n : Int) (s : St) : evK (k + 1) 76 [.int .u32 n] s = some (.bool (nmd n), s) := by
  rw [evK_in rfl tab76]
  unfold nmd
  cases h : (n != 0) <;> simp only [M76, u32_neq, h, Bool.false_and, Bool.true_and, qES0, qES1, qES2, env0, List.length_cons, List.length_nil, Nat.reduceAdd, Nat.reduceSub, List.replicate, List.cons_append, List.nil_append, opd, Env.put, Env.at, List.set_cons_zero, List.set_cons_succ, List.getD_cons_zero, List.getD_cons_succ, freezeL, resVs, oneOr, Option.map_some, Option.map_none, List.map_cons, List.map_nil, if_true, if_false, Bool.not_true, Bool.not_false, Bool.false_eq_true, reduceIte, decide_true, decide_false, Int.reduceLT, Int.reduceLE, Int.reduceGT, Int.reduceGE, Int.reduceEq, Int.reduceBEq, Int.reduceBNe, load_ptr, ldV_some, cellAt_cells, List.getElem?_cons_zero, List.getElem?_cons_succ, store_ptr, stO_some, setAt_0, setAt_1, setAt_2, setAt_3, setAt_4, setAt_5, setAt_6, setAt_7, setAt_8, setAt_9, setAt_10, setAt_11, setAt_12, cells_int, cells_bool, cells_str, cells_nils, cells_nilp, cells_ptr, cells_sl, cells_u8, cells_u16, cells_agg, get_upd_is, Option.isSome_some, upd_upd, ev1_nchkV, ev1_faV, nchkV_ptr, faV_ptr, ev1_extV, extV_tup, eqptr_nil, eqptr_ptr, Nat.zero_add, Nat.add_zero, qPL0, qPL1, qPL2, qPL3, qPL4, qPL5, beq_self_eq_true]
theorem u32_shr (n : Int) (j : Nat) (hj : j < 32) : binV .shr (.int .u32 n) (.int .u64 (j : Int)) = some (.int .u32 (n / ((2 ^ j : Nat) : Int))) := by
  show (if (j : Int) < 0 then none else some (AV.int .u32 (n.fdiv (2 ^ (min (Int.toNat (j : Int)) 32))))) = _
  rw [if_neg (by omega), Int.toNat_natCast, Nat.min_eq_left (by omega)]
  congr 2
  rw [show ((2 : Int) ^ j) = ((2 ^ j : Nat) : Int) by norm_cast, Int.fdiv_eq_ediv_of_nonneg _ (Int.natCast_nonneg _)]
theorem f4u_0 (a0 a1 a2 a3 : AV) (x : UInt8) : fill1 [a0, a1, a2, a3] 0 1 (u8v x) = some [u8v x, a1, a2, a3] := fill1_c _ _ _ rfl (by simp)
theorem f4u_1 (a0 a1 a2 a3 : AV) (x : UInt8) : fill1 [a0, a1, a2, a3] 1 1 (u8v x) = some [a0, u8v x, a2, a3] := fill1_c _ _ _ rfl (by simp)
theorem f4u_2 (a0 a1 a2 a3 : AV) (x : UInt8) : fill1 [a0, a1, a2, a3] 2 1 (u8v x) = some [a0, a1, u8v x, a3] := fill1_c _ _ _ rfl (by simp)
theorem f4u_3 (a0 a1 a2 a3 : AV) (x : UInt8) : fill1 [a0, a1, a2, a3] 3 1 (u8v x) = some [a0, a1, a2, u8v x] := fill1_c _ _ _ rfl (by simp)
theorem put4_ev (k : Nat) {S0 S : St} {acc : AV} {xs : List UInt8} (ha : Own S0 S acc xs) (he : Ext S0 S) (hl : xs.length ≤ 1000) (n : Int) (h0 : 0 ≤ n) :
    ∃ z S', evK (k + 1) 83 [acc, .int .u32 n] S = some (z, S') ∧ Own S0 S' z (xs ++ four n) ∧ Ext S0 S' ∧ KeepC S S' := by
  have s1 : binV .shr (.int .u32 n) (.int .u64 8) = some (.int .u32 (n / 256)) := u32_shr n 8 (by omega)
  have s2 : binV .shr (.int .u32 n) (.int .u64 16) = some (.int .u32 (n / 65536)) := u32_shr n 16 (by omega)
  have s3 : binV .shr (.int .u32 n) (.int .u64 24) = some (.int .u32 (n / 16777216)) := u32_shr n 24 (by omega)
  have c0 := u8ofW n h0
  have c1 := u8ofW (n / 256) (by omega)
  have c2 := u8ofW (n / 65536) (by omega)
  have c3 := u8ofW (n / 16777216) (by omega)
  obtain ⟨z, S', a1, a2, a3, a4⟩ := (ha.ext (pl_ext S [.tick 1 0])).appK (y := .sl [u8v (UInt8.ofNat n.toNat), u8v (UInt8.ofNat (n / 256).toNat), u8v (UInt8.ofNat (n / 65536).toNat), u8v (UInt8.ofNat (n / 16777216).toNat)] 4 (some (S.next, 0, 1))) (ys := four n) rfl (he.trans (pl_ext S _)) (by rw [four_len]; omega)
  have fz := a2.bys.freeze
  refine ⟨z, S', ?_, a2, a3, (KeepC.new S (.tick 1 0)).trans a4⟩
  rw [evK_in rfl tab83, show S = S.pl [] from rfl]
  simp only [M83, s1, s2, s3, c0, c1, c2, c3, a1, fz, f4u_0, f4u_1, f4u_2, f4u_3, conv_int, qES0, qES1, qES2, env0, List.length_cons, List.length_nil, Nat.reduceAdd, Nat.reduceSub, List.replicate, List.cons_append, List.nil_append, opd, Env.put, Env.at, List.set_cons_zero, List.set_cons_succ, List.getD_cons_zero, List.getD_cons_succ, freezeL, resVs, oneOr, Option.map_some, Option.map_none, List.map_cons, List.map_nil, if_true, if_false, Bool.not_true, Bool.not_false, Bool.false_eq_true, reduceIte, decide_true, decide_false, Int.reduceLT, Int.reduceLE, Int.reduceGT, Int.reduceGE, Int.reduceEq, Int.reduceBEq, Int.reduceBNe, load_ptr, ldV_some, cellAt_cells, List.getElem?_cons_zero, List.getElem?_cons_succ, store_ptr, stO_some, setAt_0, setAt_1, setAt_2, setAt_3, setAt_4, setAt_5, setAt_6, setAt_7, setAt_8, setAt_9, setAt_10, setAt_11, setAt_12, cells_int, cells_bool, cells_str, cells_nils, cells_nilp, cells_ptr, cells_sl, cells_u8, cells_u16, cells_agg, get_upd_is, Option.isSome_some, upd_upd, ev1_nchkV, ev1_faV, nchkV_ptr, faV_ptr, ev1_extV, extV_tup, eqptr_nil, eqptr_ptr, Nat.zero_add, Nat.add_zero, qPL0, qPL1, qPL2, qPL3, qPL4, qPL5, beq_self_eq_true]
theorem xput4_ev (k : Nat) {S0 S : St} {acc : AV} {xs : List UInt8} (ha : Own S0 S acc xs) (he : Ext S0 S) (hl : xs.length ≤ 1000) (n : Int) (h0 : 0 ≤ n) :
    ∃ z S', evK (k + 1) 73 [acc, .int .u32 n] S = some (z, S') ∧ Own S0 S' z (xs ++ four n) ∧ Ext S0 S' ∧ KeepC S S' := by
  have s1 : binV .shr (.int .u32 n) (.int .u64 8) = some (.int .u32 (n / 256)) := u32_shr n 8 (by omega)
  have s2 : binV .shr (.int .u32 n) (.int .u64 16) = some (.int .u32 (n / 65536)) := u32_shr n 16 (by omega)
  have s3 : binV .shr (.int .u32 n) (.int .u64 24) = some (.int .u32 (n / 16777216)) := u32_shr n 24 (by omega)
  have c0 := u8ofW n h0
  have c1 := u8ofW (n / 256) (by omega)
  have c2 := u8ofW (n / 65536) (by omega)
  have c3 := u8ofW (n / 16777216) (by omega)
  obtain ⟨z, S', a1, a2, a3, a4⟩ := (ha.ext (pl_ext S [.tick 1 0])).appK (y := .sl [u8v (UInt8.ofNat n.toNat), u8v (UInt8.ofNat (n / 256).toNat), u8v (UInt8.ofNat (n / 65536).toNat), u8v (UInt8.ofNat (n / 16777216).toNat)] 4 (some (S.next, 0, 1))) (ys := four n) rfl (he.trans (pl_ext S _)) (by rw [four_len]; omega)
  have fz := a2.bys.freeze
  refine ⟨z, S', ?_, a2, a3, (KeepC.new S (.tick 1 0)).trans a4⟩
  rw [evK_in rfl tab73, show S = S.pl [] from rfl]
  simp only [M73, s1, s2, s3, c0, c1, c2, c3, a1, fz, f4u_0, f4u_1, f4u_2, f4u_3, conv_int, qES0, qES1, qES2, env0, List.length_cons, List.length_nil, Nat.reduceAdd, Nat.reduceSub, List.replicate, List.cons_append, List.nil_append, opd, Env.put, Env.at, List.set_cons_zero, List.set_cons_succ, List.getD_cons_zero, List.getD_cons_succ, freezeL, resVs, oneOr, Option.map_some, Option.map_none, List.map_cons, List.map_nil, if_true, if_false, Bool.not_true, Bool.not_false, Bool.false_eq_true, reduceIte, decide_true, decide_false, Int.reduceLT, Int.reduceLE, Int.reduceGT, Int.reduceGE, Int.reduceEq, Int.reduceBEq, Int.reduceBNe, load_ptr, ldV_some, cellAt_cells, List.getElem?_cons_zero, List.getElem?_cons_succ, store_ptr, stO_some, setAt_0, setAt_1, setAt_2, setAt_3, setAt_4, setAt_5, setAt_6, setAt_7, setAt_8, setAt_9, setAt_10, setAt_11, setAt_12, cells_int, cells_bool, cells_str, cells_nils, cells_nilp, cells_ptr, cells_sl, cells_u8, cells_u16, cells_agg, get_upd_is, Option.isSome_some, upd_upd, ev1_nchkV, ev1_faV, nchkV_ptr, faV_ptr, ev1_extV, extV_tup, eqptr_nil, eqptr_ptr, Nat.zero_add, Nat.add_zero, qPL0, qPL1, qPL2, qPL3, qPL4, qPL5, beq_self_eq_true]
theorem u32_rem (a b : Int) (h : b ≠ 0) : binV .rem (.int .u32 a) (.int .u32 b) = some (.int .u32 (a.tmod b)) := by
  show (if b = 0 then none else some (AV.int .u32 (a.tmod b))) = _
  rw [if_neg h]
theorem u32_quo (a b : Int) (h : 0 < b) (ha : is32 a) : binV .quo (.int .u32 a) (.int .u32 b) = some (.int .u32 (a / b)) := by
  show (if b = 0 then none else some (AV.int .u32 (IntKind.u32.wrap (a.tdiv b)))) = _
  have h1 : 0 ≤ a / b := Int.ediv_nonneg ha.1 (by omega)
  have h2 : a / b ≤ a := Int.ediv_le_self _ ha.1
  have := ha.2
  rw [if_neg (by omega), Int.tdiv_eq_ediv_of_nonneg ha.1, u32w _ h1 (by omega)]
theorem four_ev (k : Nat) (n : Int) (h : is32 n) (s : St) : ∃ s', evK (k + 1) 75 [.int .u32 n] s = some (.str (four n), s') ∧ KeepC s s' := by
  have h' := h
  unfold is32 at h'
  have r1 := u32_rem n 256 (by omega)
  have q1 := u32_quo n 256 (by omega) h
  have q2 := u32_quo n 65536 (by omega) h
  have q3 := u32_quo n 16777216 (by omega) h
  have r2 := u32_rem (n / 256) 256 (by omega)
  have r3 := u32_rem (n / 65536) 256 (by omega)
  rw [Int.tmod_eq_emod_of_nonneg (by omega)] at r1 r2 r3
  have mm : ∀ x : Int, 0 ≤ x → AV.int .u8 (IntKind.u8.wrap (x % 256)) = u8v (UInt8.ofNat x.toNat) := fun x hx => by
    rw [← u8ofW x hx]
    congr 1
    simp only [IntKind.wrap, IntKind.bits, IntKind.signed]; simp
  have c0 := mm n h.1
  have c1 := mm (n / 256) (by omega)
  have c2 := mm (n / 65536) (by omega)
  have c3 := u8ofW (n / 16777216) (by omega)
  have cb : ∀ tk, convP .b2s (.sl [u8v (UInt8.ofNat n.toNat), u8v (UInt8.ofNat (n / 256).toNat), u8v (UInt8.ofNat (n / 65536).toNat), u8v (UInt8.ofNat (n / 16777216).toNat)] 4 tk) = some (.str (four n)) := by
    intro tk
    show (toBytes (bytesAV (four n))).map AV.str = _
    rw [toBytes_bytesAV]; rfl
  refine ⟨s.pl [.tick 1 0], ?_, KeepC.new _ _⟩
  rw [evK_in rfl tab75, show s = s.pl [] from rfl]
  simp only [M75, r1, r2, r3, q1, q2, q3, c0, c1, c2, c3, cb, f4u_0, f4u_1, f4u_2, f4u_3, conv_int, qES0, qES1, qES2, env0, List.length_cons, List.length_nil, Nat.reduceAdd, Nat.reduceSub, List.replicate, List.cons_append, List.nil_append, opd, Env.put, Env.at, List.set_cons_zero, List.set_cons_succ, List.getD_cons_zero, List.getD_cons_succ, freezeL, resVs, oneOr, Option.map_some, Option.map_none, List.map_cons, List.map_nil, if_true, if_false, Bool.not_true, Bool.not_false, Bool.false_eq_true, reduceIte, decide_true, decide_false, Int.reduceLT, Int.reduceLE, Int.reduceGT, Int.reduceGE, Int.reduceEq, Int.reduceBEq, Int.reduceBNe, load_ptr, ldV_some, cellAt_cells, List.getElem?_cons_zero, List.getElem?_cons_succ, store_ptr, stO_some, setAt_0, setAt_1, setAt_2, setAt_3, setAt_4, setAt_5, setAt_6, setAt_7, setAt_8, setAt_9, setAt_10, setAt_11, setAt_12, cells_int, cells_bool, cells_str, cells_nils, cells_nilp, cells_ptr, cells_sl, cells_u8, cells_u16, cells_agg, get_upd_is, Option.isSome_some, upd_upd, ev1_nchkV, ev1_faV, nchkV_ptr, faV_ptr, ev1_extV, extV_tup, eqptr_nil, eqptr_ptr, Nat.zero_add, Nat.add_zero, qPL0, qPL1, qPL2, qPL3, qPL4, qPL5, beq_self_eq_true]
  rfl
/-! Numbers read. -/
theorem conv_u32 (a : UInt8) : IntKind.u32.wrap (a.toNat : Int) = (a.toNat : Int) := u32w _ (by omega) (by have := a.toNat_lt; omega)
theorem or_u32 (x z : Nat) (k : Nat) (hx : x < 2 ^ k) (hs : 2 ^ k * z + x < 4294967296) : binV .or (.int .u32 (x : Int)) (.int .u32 ((2 ^ k * z : Nat) : Int)) = some (.int .u32 ((2 ^ k * z + x : Nat) : Int)) := by
  show some (AV.int .u32 (IntKind.u32.wrap ((BitVec.ofInt 32 (x : Int) ||| BitVec.ofInt 32 ((2 ^ k * z : Nat) : Int)).toNat : Int))) = _
  have hv : (BitVec.ofInt 32 (x : Int) ||| BitVec.ofInt 32 ((2 ^ k * z : Nat) : Int)).toNat = 2 ^ k * z + x := by
    rw [BitVec.toNat_or, BitVec.toNat_ofInt, BitVec.toNat_ofInt]
    have q1 : ((x : Int) % ((2 ^ 32 : Nat) : Int)).toNat = x := by omega
    have q2 : (((2 ^ k * z : Nat) : Int) % ((2 ^ 32 : Nat) : Int)).toNat = 2 ^ k * z := by omega
    rw [q1, q2, Nat.or_comm, ← Nat.two_pow_add_eq_or_of_lt hx]
  rw [hv, u32w _ (by omega) (by omega)]
theorem shl_u32 (a : UInt8) (j : Nat) (hj : j ≤ 24) : binV .shl (.int .u32 (a.toNat : Int)) (.int .u64 (j : Int)) = some (.int .u32 ((2 ^ j * a.toNat : Nat) : Int)) := by
  show (if (j : Int) < 0 then none else some (AV.int .u32 (IntKind.u32.wrap ((a.toNat : Int) * 2 ^ (min (Int.toNat (j : Int)) 32))))) = _
  rw [if_neg (by omega), Int.toNat_natCast, Nat.min_eq_left (by omega)]
  have ha := a.toNat_lt
  have hp : 2 ^ j ≤ 2 ^ 24 := Nat.pow_le_pow_right (by omega) hj
  have hm : 2 ^ j * a.toNat ≤ 2 ^ 24 * 255 := Nat.mul_le_mul hp (by omega)
  have e : (a.toNat : Int) * 2 ^ j = ((2 ^ j * a.toNat : Nat) : Int) := by push_cast; rw [Int.mul_comm]
  rw [e, u32w _ (by omega) (by omega)]
section
variable (a b c d : UInt8) (r : List UInt8)
theorem ixs0 : ixsV (.str (a :: b :: c :: d :: r)) (.int .i64 0) = some (.int .u8 (a.toNat : Int)) := ixsV_at (a :: b :: c :: d :: r) 0 (by simp)
theorem ixs1 : ixsV (.str (a :: b :: c :: d :: r)) (.int .i64 1) = some (.int .u8 (b.toNat : Int)) := ixsV_at (a :: b :: c :: d :: r) 1 (by simp)
theorem ixs2 : ixsV (.str (a :: b :: c :: d :: r)) (.int .i64 2) = some (.int .u8 (c.toNat : Int)) := ixsV_at (a :: b :: c :: d :: r) 2 (by simp)
theorem ixs3 : ixsV (.str (a :: b :: c :: d :: r)) (.int .i64 3) = some (.int .u8 (d.toNat : Int)) := ixsV_at (a :: b :: c :: d :: r) 3 (by simp)
theorem get4_ev (k : Nat) (s : St) : evK (k + 1) 85 [.str (a :: b :: c :: d :: r)] s = some (.int .u32 (num4 a b c d), s) := by
  rw [evK_in rfl tab85]
  have i0 := ixs0 a b c d r; have i1 := ixs1 a b c d r; have i2 := ixs2 a b c d r; have i3 := ixs3 a b c d r
  have l1 : binV .shl (.int .u32 (b.toNat : Int)) (.int .u64 8) = some (.int .u32 ((256 * b.toNat : Nat) : Int)) := shl_u32 b 8 (by omega)
  have l2 : binV .shl (.int .u32 (c.toNat : Int)) (.int .u64 16) = some (.int .u32 ((65536 * c.toNat : Nat) : Int)) := shl_u32 c 16 (by omega)
  have l3 : binV .shl (.int .u32 (d.toNat : Int)) (.int .u64 24) = some (.int .u32 ((16777216 * d.toNat : Nat) : Int)) := shl_u32 d 24 (by omega)
  have ha := a.toNat_lt; have hb := b.toNat_lt; have hc := c.toNat_lt; have hd := d.toNat_lt
  have o1 : binV .or (.int .u32 (a.toNat : Int)) (.int .u32 ((256 * b.toNat : Nat) : Int)) = some (.int .u32 ((256 * b.toNat + a.toNat : Nat) : Int)) := or_u32 a.toNat b.toNat 8 (by omega) (by omega)
  have o2 : binV .or (.int .u32 ((256 * b.toNat + a.toNat : Nat) : Int)) (.int .u32 ((65536 * c.toNat : Nat) : Int)) = some (.int .u32 ((65536 * c.toNat + (256 * b.toNat + a.toNat) : Nat) : Int)) := or_u32 (256 * b.toNat + a.toNat) c.toNat 16 (by omega) (by omega)
  have o3 : binV .or (.int .u32 ((65536 * c.toNat + (256 * b.toNat + a.toNat) : Nat) : Int)) (.int .u32 ((16777216 * d.toNat : Nat) : Int)) = some (.int .u32 ((16777216 * d.toNat + (65536 * c.toNat + (256 * b.toNat + a.toNat)) : Nat) : Int)) := or_u32 (65536 * c.toNat + (256 * b.toNat + a.toNat)) d.toNat 24 (by omega) (by omega)
  have e : ((16777216 * d.toNat + (65536 * c.toNat + (256 * b.toNat + a.toNat)) : Nat) : Int) = num4 a b c d := by unfold num4; omega
  rw [e] at o3
  have ca := conv_u32 a; have cb := conv_u32 b; have cc := conv_u32 c; have cd := conv_u32 d
  generalize a :: b :: c :: d :: r = t at *
  simp only [M85, i0, i1, i2, i3, l1, l2, l3, o1, o2, o3, ca, cb, cc, cd, conv_int, ev1_ixsV, qES0, qES1, qES2, env0, List.length_cons, List.length_nil, Nat.reduceAdd, Nat.reduceSub, List.replicate, List.cons_append, List.nil_append, opd, Env.put, Env.at, List.set_cons_zero, List.set_cons_succ, List.getD_cons_zero, List.getD_cons_succ, freezeL, resVs, oneOr, Option.map_some, Option.map_none, List.map_cons, List.map_nil, if_true, if_false, Bool.not_true, Bool.not_false, Bool.false_eq_true, reduceIte, decide_true, decide_false, Int.reduceLT, Int.reduceLE, Int.reduceGT, Int.reduceGE, Int.reduceEq, Int.reduceBEq, Int.reduceBNe, load_ptr, ldV_some, cellAt_cells, List.getElem?_cons_zero, List.getElem?_cons_succ, store_ptr, stO_some, setAt_0, setAt_1, setAt_2, setAt_3, setAt_4, setAt_5, setAt_6, setAt_7, setAt_8, setAt_9, setAt_10, setAt_11, setAt_12, cells_int, cells_bool, cells_str, cells_nils, cells_nilp, cells_ptr, cells_sl, cells_u8, cells_u16, cells_agg, get_upd_is, Option.isSome_some, upd_upd, ev1_nchkV, ev1_faV, nchkV_ptr, faV_ptr, ev1_extV, extV_tup, eqptr_nil, eqptr_ptr, Nat.zero_add, Nat.add_zero, qPL0, qPL1, qPL2, qPL3, qPL4, qPL5, beq_self_eq_true, qED0, qED1, placeR]
  rw [drawR_ok]; case h => simp (config := { decide := true }) [calm, calmPair, calmTwo, List.range, List.range.loop, sameO_refl]
  simp only [qES0, qES1, qES2, env0, List.length_cons, List.length_nil, Nat.reduceAdd, Nat.reduceSub, List.replicate, List.cons_append, List.nil_append, opd, Env.put, Env.at, List.set_cons_zero, List.set_cons_succ, List.getD_cons_zero, List.getD_cons_succ, freezeL, resVs, oneOr, Option.map_some, Option.map_none, List.map_cons, List.map_nil, if_true, if_false, Bool.not_true, Bool.not_false, Bool.false_eq_true, reduceIte, decide_true, decide_false, Int.reduceLT, Int.reduceLE, Int.reduceGT, Int.reduceGE, Int.reduceEq, Int.reduceBEq, Int.reduceBNe, load_ptr, ldV_some, cellAt_cells, List.getElem?_cons_zero, List.getElem?_cons_succ, store_ptr, stO_some, setAt_0, setAt_1, setAt_2, setAt_3, setAt_4, setAt_5, setAt_6, setAt_7, setAt_8, setAt_9, setAt_10, setAt_11, setAt_12, cells_int, cells_bool, cells_str, cells_nils, cells_nilp, cells_ptr, cells_sl, cells_u8, cells_u16, cells_agg, get_upd_is, Option.isSome_some, upd_upd, ev1_nchkV, ev1_faV, nchkV_ptr, faV_ptr, ev1_extV, extV_tup, eqptr_nil, eqptr_ptr, Nat.zero_add, Nat.add_zero, qPL0, qPL1, qPL2, qPL3, qPL4, qPL5, beq_self_eq_true, qED0, qED1, placeR]
theorem xget4_ev (k : Nat) (s : St) : evK (k + 1) 78 [.str (a :: b :: c :: d :: r)] s = some (.int .u32 (num4 a b c d), s) := by
  rw [evK_in rfl tab78]
  have i0 := ixs0 a b c d r; have i1 := ixs1 a b c d r; have i2 := ixs2 a b c d r; have i3 := ixs3 a b c d r
  have l1 : binV .shl (.int .u32 (b.toNat : Int)) (.int .u64 8) = some (.int .u32 ((256 * b.toNat : Nat) : Int)) := shl_u32 b 8 (by omega)
  have l2 : binV .shl (.int .u32 (c.toNat : Int)) (.int .u64 16) = some (.int .u32 ((65536 * c.toNat : Nat) : Int)) := shl_u32 c 16 (by omega)
  have l3 : binV .shl (.int .u32 (d.toNat : Int)) (.int .u64 24) = some (.int .u32 ((16777216 * d.toNat : Nat) : Int)) := shl_u32 d 24 (by omega)
  have ha := a.toNat_lt; have hb := b.toNat_lt; have hc := c.toNat_lt; have hd := d.toNat_lt
  have o1 : binV .or (.int .u32 (a.toNat : Int)) (.int .u32 ((256 * b.toNat : Nat) : Int)) = some (.int .u32 ((256 * b.toNat + a.toNat : Nat) : Int)) := or_u32 a.toNat b.toNat 8 (by omega) (by omega)
  have o2 : binV .or (.int .u32 ((256 * b.toNat + a.toNat : Nat) : Int)) (.int .u32 ((65536 * c.toNat : Nat) : Int)) = some (.int .u32 ((65536 * c.toNat + (256 * b.toNat + a.toNat) : Nat) : Int)) := or_u32 (256 * b.toNat + a.toNat) c.toNat 16 (by omega) (by omega)
  have o3 : binV .or (.int .u32 ((65536 * c.toNat + (256 * b.toNat + a.toNat) : Nat) : Int)) (.int .u32 ((16777216 * d.toNat : Nat) : Int)) = some (.int .u32 ((16777216 * d.toNat + (65536 * c.toNat + (256 * b.toNat + a.toNat)) : Nat) : Int)) := or_u32 (65536 * c.toNat + (256 * b.toNat + a.toNat)) d.toNat 24 (by omega) (by omega)
  have e : ((16777216 * d.toNat + (65536 * c.toNat + (256 * b.toNat + a.toNat)) : Nat) : Int) = num4 a b c d := by unfold num4; omega
  rw [e] at o3
  have ca := conv_u32 a; have cb := conv_u32 b; have cc := conv_u32 c; have cd := conv_u32 d
  generalize a :: b :: c :: d :: r = t at *
  simp only [M78, i0, i1, i2, i3, l1, l2, l3, o1, o2, o3, ca, cb, cc, cd, conv_int, ev1_ixsV, qES0, qES1, qES2, env0, List.length_cons, List.length_nil, Nat.reduceAdd, Nat.reduceSub, List.replicate, List.cons_append, List.nil_append, opd, Env.put, Env.at, List.set_cons_zero, List.set_cons_succ, List.getD_cons_zero, List.getD_cons_succ, freezeL, resVs, oneOr, Option.map_some, Option.map_none, List.map_cons, List.map_nil, if_true, if_false, Bool.not_true, Bool.not_false, Bool.false_eq_true, reduceIte, decide_true, decide_false, Int.reduceLT, Int.reduceLE, Int.reduceGT, Int.reduceGE, Int.reduceEq, Int.reduceBEq, Int.reduceBNe, load_ptr, ldV_some, cellAt_cells, List.getElem?_cons_zero, List.getElem?_cons_succ, store_ptr, stO_some, setAt_0, setAt_1, setAt_2, setAt_3, setAt_4, setAt_5, setAt_6, setAt_7, setAt_8, setAt_9, setAt_10, setAt_11, setAt_12, cells_int, cells_bool, cells_str, cells_nils, cells_nilp, cells_ptr, cells_sl, cells_u8, cells_u16, cells_agg, get_upd_is, Option.isSome_some, upd_upd, ev1_nchkV, ev1_faV, nchkV_ptr, faV_ptr, ev1_extV, extV_tup, eqptr_nil, eqptr_ptr, Nat.zero_add, Nat.add_zero, qPL0, qPL1, qPL2, qPL3, qPL4, qPL5, beq_self_eq_true, qED0, qED1, placeR]
  rw [drawR_ok]; case h => simp (config := { decide := true }) [calm, calmPair, calmTwo, List.range, List.range.loop, sameO_refl]
  simp only [qES0, qES1, qES2, env0, List.length_cons, List.length_nil, Nat.reduceAdd, Nat.reduceSub, List.replicate, List.cons_append, List.nil_append, opd, Env.put, Env.at, List.set_cons_zero, List.set_cons_succ, List.getD_cons_zero, List.getD_cons_succ, freezeL, resVs, oneOr, Option.map_some, Option.map_none, List.map_cons, List.map_nil, if_true, if_false, Bool.not_true, Bool.not_false, Bool.false_eq_true, reduceIte, decide_true, decide_false, Int.reduceLT, Int.reduceLE, Int.reduceGT, Int.reduceGE, Int.reduceEq, Int.reduceBEq, Int.reduceBNe, load_ptr, ldV_some, cellAt_cells, List.getElem?_cons_zero, List.getElem?_cons_succ, store_ptr, stO_some, setAt_0, setAt_1, setAt_2, setAt_3, setAt_4, setAt_5, setAt_6, setAt_7, setAt_8, setAt_9, setAt_10, setAt_11, setAt_12, cells_int, cells_bool, cells_str, cells_nils, cells_nilp, cells_ptr, cells_sl, cells_u8, cells_u16, cells_agg, get_upd_is, Option.isSome_some, upd_upd, ev1_nchkV, ev1_faV, nchkV_ptr, faV_ptr, ev1_extV, extV_tup, eqptr_nil, eqptr_ptr, Nat.zero_add, Nat.add_zero, qPL0, qPL1, qPL2, qPL3, qPL4, qPL5, beq_self_eq_true, qED0, qED1, placeR]
theorem u32_mul (a b : Int) (h : is32 (a * b)) : binV .mul (.int .u32 a) (.int .u32 b) = some (.int .u32 (a * b)) := by
  show some (AV.int .u32 (IntKind.u32.wrap (a * b))) = _
  rw [u32w _ h.1 h.2]
theorem u32_add (a b : Int) (h : is32 (a + b)) : binV .add (.int .u32 a) (.int .u32 b) = some (.int .u32 (a + b)) := by
  show some (AV.int .u32 (IntKind.u32.wrap (a + b))) = _
  rw [u32w _ h.1 h.2]
theorem number_ev (k : Nat) (s : St) : evK (k + 1) 79 [.str (a :: b :: c :: d :: r)] s = some (.int .u32 (num4 a b c d), s) := by
  rw [evK_in rfl tab79]
  have i0 := ixs0 a b c d r; have i1 := ixs1 a b c d r; have i2 := ixs2 a b c d r; have i3 := ixs3 a b c d r
  have ha := a.toNat_lt; have hb := b.toNat_lt; have hc := c.toNat_lt; have hd := d.toNat_lt
  have m1 := u32_mul (b.toNat : Int) 256 (by unfold is32; omega)
  have m2 := u32_mul (c.toNat : Int) 65536 (by unfold is32; omega)
  have m3 := u32_mul (d.toNat : Int) 16777216 (by unfold is32; omega)
  have p1 := u32_add (a.toNat : Int) ((b.toNat : Int) * 256) (by unfold is32; omega)
  have p2 := u32_add ((a.toNat : Int) + (b.toNat : Int) * 256) ((c.toNat : Int) * 65536) (by unfold is32; omega)
  have p3 := u32_add ((a.toNat : Int) + (b.toNat : Int) * 256 + (c.toNat : Int) * 65536) ((d.toNat : Int) * 16777216) (by unfold is32; omega)
  have ca := conv_u32 a; have cb := conv_u32 b; have cc := conv_u32 c; have cd := conv_u32 d
  unfold num4
  generalize a :: b :: c :: d :: r = t at *
  simp only [M79, i0, i1, i2, i3, m1, m2, m3, p1, p2, p3, ca, cb, cc, cd, conv_int, ev1_ixsV, qES0, qES1, qES2, env0, List.length_cons, List.length_nil, Nat.reduceAdd, Nat.reduceSub, List.replicate, List.cons_append, List.nil_append, opd, Env.put, Env.at, List.set_cons_zero, List.set_cons_succ, List.getD_cons_zero, List.getD_cons_succ, freezeL, resVs, oneOr, Option.map_some, Option.map_none, List.map_cons, List.map_nil, if_true, if_false, Bool.not_true, Bool.not_false, Bool.false_eq_true, reduceIte, decide_true, decide_false, Int.reduceLT, Int.reduceLE, Int.reduceGT, Int.reduceGE, Int.reduceEq, Int.reduceBEq, Int.reduceBNe, load_ptr, ldV_some, cellAt_cells, List.getElem?_cons_zero, List.getElem?_cons_succ, store_ptr, stO_some, setAt_0, setAt_1, setAt_2, setAt_3, setAt_4, setAt_5, setAt_6, setAt_7, setAt_8, setAt_9, setAt_10, setAt_11, setAt_12, cells_int, cells_bool, cells_str, cells_nils, cells_nilp, cells_ptr, cells_sl, cells_u8, cells_u16, cells_agg, get_upd_is, Option.isSome_some, upd_upd, ev1_nchkV, ev1_faV, nchkV_ptr, faV_ptr, ev1_extV, extV_tup, eqptr_nil, eqptr_ptr, Nat.zero_add, Nat.add_zero, qPL0, qPL1, qPL2, qPL3, qPL4, qPL5, beq_self_eq_true, qED0, qED1, placeR]
  rw [drawR_ok]; case h => simp (config := { decide := true }) [calm, calmPair, calmTwo, List.range, List.range.loop, sameO_refl]
  simp only [qES0, qES1, qES2, env0, List.length_cons, List.length_nil, Nat.reduceAdd, Nat.reduceSub, List.replicate, List.cons_append, List.nil_append, opd, Env.put, Env.at, List.set_cons_zero, List.set_cons_succ, List.getD_cons_zero, List.getD_cons_succ, freezeL, resVs, oneOr, Option.map_some, Option.map_none, List.map_cons, List.map_nil, if_true, if_false, Bool.not_true, Bool.not_false, Bool.false_eq_true, reduceIte, decide_true, decide_false, Int.reduceLT, Int.reduceLE, Int.reduceGT, Int.reduceGE, Int.reduceEq, Int.reduceBEq, Int.reduceBNe, load_ptr, ldV_some, cellAt_cells, List.getElem?_cons_zero, List.getElem?_cons_succ, store_ptr, stO_some, setAt_0, setAt_1, setAt_2, setAt_3, setAt_4, setAt_5, setAt_6, setAt_7, setAt_8, setAt_9, setAt_10, setAt_11, setAt_12, cells_int, cells_bool, cells_str, cells_nils, cells_nilp, cells_ptr, cells_sl, cells_u8, cells_u16, cells_agg, get_upd_is, Option.isSome_some, upd_upd, ev1_nchkV, ev1_faV, nchkV_ptr, faV_ptr, ev1_extV, extV_tup, eqptr_nil, eqptr_ptr, Nat.zero_add, Nat.add_zero, qPL0, qPL1, qPL2, qPL3, qPL4, qPL5, beq_self_eq_true, qED0, qED1, placeR]
end
end Go.Proofs.YtbeimfhodgmjhaaDoor
