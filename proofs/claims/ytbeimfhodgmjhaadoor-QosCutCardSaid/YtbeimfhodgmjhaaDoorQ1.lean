/- Sets of bits: math/bits, qos.High, Low and the document's, as the evaluator answers them. No conditions. -/
import Derived.Test.YtbeimfhodgmjhaaDoorSet
import Derived.Test.YtbeimfhodgmjhaaDoorM8
import Derived.Test.YtbeimfhodgmjhaaDoorTup
import Derived.Test.YtbeimfhodgmjhaaDoorP8a
set_option linter.unusedSimpArgs false
set_option linter.unusedVariables false
set_option maxRecDepth 100000
namespace Go.Ab
open Go
theorem neg_int (k : IntKind) (n : Int) : unV .neg (.int k n) = some (.int k (k.wrap (0 - n))) := (id rfl)
theorem wrapB (n : Int) (h : -4611686018427387904 ≤ n) (g : n ≤ 4611686018427387904) : IntKind.i64.wrap n = n := by rw [IntKind.wrap_i64]; omega
theorem map_at {α : Type} {f g : Nat → α} {n : Nat} (h : (List.range n).map f = (List.range n).map g) (j : Nat) (hj : j < n) : f j = g j := by
  have := congrArg (·[j]?) h
  simpa [List.getElem?_map, List.getElem?_range hj] using this
theorem bv_and (n : Int) (m : Nat) (h : m < 2 ^ 64) : (BitVec.ofInt 64 n &&& BitVec.ofInt 64 (m : Int)).toNat = (n % 18446744073709551616).toNat &&& m := by
  rw [BitVec.toNat_and, BitVec.toNat_ofInt, BitVec.toNat_ofInt]
  congr 1
  have : ((m : Int) % ((2 ^ 64 : Nat) : Int)) = m := Int.emod_eq_of_lt (by omega) (by exact_mod_cast h)
  omega
theorem and_max (n : Int) (j : Nat) (h : j ≤ 32) : binV .and (.int .i64 n) (.int .i64 ((2 ^ j - 1 : Nat) : Int)) = some (.int .i64 (n % ((2 ^ j : Nat) : Int))) := by
  have hp : 2 ^ j ≤ 2 ^ 32 := Nat.pow_le_pow_right (by omega) h
  have hp0 : 0 < 2 ^ j := Nat.pow_pos (by omega)
  show some (AV.int .i64 (IntKind.i64.wrap ((BitVec.ofInt 64 n &&& BitVec.ofInt 64 ((2 ^ j - 1 : Nat) : Int)).toNat : Int))) = _
  rw [bv_and n _ (by omega), Nat.and_two_pow_sub_one_eq_mod]
  have h1 : (18446744073709551616 : Int) = ((2 ^ j : Nat) : Int) * ((2 ^ (64 - j) : Nat) : Int) := by
    rw [← Int.natCast_mul, ← Nat.pow_add, show j + (64 - j) = 64 by omega]; rfl
  have h2 : (((n % 18446744073709551616).toNat % 2 ^ j : Nat) : Int) = n % ((2 ^ j : Nat) : Int) := by
    rw [Int.natCast_emod, Int.toNat_of_nonneg (by omega), Int.emod_emod_of_dvd n ⟨_, h1⟩]
  rw [h2, wrapB _ (by have := Int.emod_nonneg n (show ((2 ^ j : Nat) : Int) ≠ 0 by omega); omega) (by have := Int.emod_lt_of_pos n (show (0 : Int) < ((2 ^ j : Nat) : Int) by omega); omega)]
theorem and_65535 (n : Int) : binV .and (.int .i64 n) (.int .i64 65535) = some (.int .i64 (n % 65536)) := and_max n 16 (by omega)
def ixpV (len size : Nat) (x i : AV) : Option AV :=
  match x with
  | .ptr b o => match idx len i with
    | some j => some (.ptr b (o + j * size))
    | none => none
  | .rp cs => match idx len i with
    | some j => if j * size ≤ cs.length then some (.rp (cs.drop (j * size))) else none
    | none => none
  | _ => none
theorem ev1_ixpV (gl : Nat → AV) (call : Calls') (e : Env) (s : St) (len size : Nat) (x i : Opd) : ev1 gl call e s (.ixp len size x i) = pR s (ixpV len size (opd gl e x) (opd gl e i)) := by
  rw [ev1_ixp]; rfl
theorem and_1 (n : Int) : binV .and (.int .i64 n) (.int .i64 1) = some (.int .i64 (n % 2)) := and_max n 1 (by omega)
end Go.Ab
namespace Go.Proofs.YtbeimfhodgmjhaaDoor
open Go Go.Ab
theorem u16w (n : Int) (h0 : 0 ≤ n) (h1 : n < 65536) : IntKind.u16.wrap n = n := by
  simp only [IntKind.wrap, IntKind.bits, IntKind.signed]; simp; omega
theorem u8w (n : Int) (h0 : 0 ≤ n) (h1 : n < 256) : IntKind.u8.wrap n = n := by
  simp only [IntKind.wrap, IntKind.bits, IntKind.signed]; simp; omega
theorem u32w (n : Int) (h0 : 0 ≤ n) (h1 : n < 4294967296) : IntKind.u32.wrap n = n := by
  simp only [IntKind.wrap, IntKind.bits, IntKind.signed]; simp; omega
theorem len8_tab : (List.range 256).map (fun (j : Nat) => ixsV (.str lit63_0) (.int .u8 (j : Int))) = (List.range 256).map (fun (j : Nat) => some (.int .u8 (len8 j : Int))) := by kernel_rfl
theorem len8_at (j : Nat) (hj : j < 256) : ixsV (.str lit63_0) (.int .u8 (j : Int)) = some (.int .u8 (len8 j : Int)) := map_at len8_tab j hj
theorem len8_le (j : Nat) (hj : j < 256) : len8 j ≤ 8 := by
  unfold len8; split
  · omega
  · have := Nat.log2_lt (n := j) (k := 8) (by omega); omega
theorem len16_ev (k : Nat) (m : Nat) (hm : m < 65536) (s : St) : evT (k + 1) 63 [.int .u16 (m : Int)] s = some (.int .i64 (len16 m : Int), s) := by
  rw [evT_in rfl tab63]
  have g1 : binV .geq (.int .u16 (m : Int)) (.int .u16 256) = some (.bool (decide (m ≥ 256))) := by
    show some (AV.bool (decide ((m : Int) ≥ 256))) = _
    rw [show decide ((m : Int) ≥ 256) = decide (m ≥ 256) from decide_eq_decide.2 (by omega)]
  have s1 : binV .shr (.int .u16 (m : Int)) (.int .u64 8) = some (.int .u16 ((m / 256 : Nat) : Int)) := by
    show some (AV.int .u16 ((m : Int).fdiv 256)) = _
    rw [Int.fdiv_eq_ediv_of_nonneg _ (by omega)]; rfl
  have w1 : IntKind.u8.wrap ((m / 256 : Nat) : Int) = ((m / 256 : Nat) : Int) := u8w _ (by omega) (by omega)
  have l1 := len8_at (m / 256) (by omega)
  have l2 := len8_le (m / 256) (by omega)
  have w3 : IntKind.i64.wrap ((len8 (m / 256) : Nat) : Int) = ((len8 (m / 256) : Nat) : Int) := wrapI _ (by omega) (by omega)
  have w4 : IntKind.i64.wrap (8 + ((len8 (m / 256) : Nat) : Int)) = ((len8 (m / 256) + 8 : Nat) : Int) := (wrapI _ (by omega) (by omega)).trans (by omega)
  by_cases h : m ≥ 256
  · rw [decide_eq_true h] at g1
    have e : len16 m = len8 (m / 256) + 8 := by unfold len16; rw [if_pos h]
    simp only [M63, g1, s1, w1, l1, w3, w4, e, conv_int, ev1_ixsV, qES0, qES1, qES2, env0, List.length_cons, List.length_nil, Nat.reduceAdd, Nat.reduceSub, List.replicate, List.cons_append, List.nil_append, opd, Env.put, Env.at, List.set_cons_zero, List.set_cons_succ, List.getD_cons_zero, List.getD_cons_succ, freezeL, resVs, oneOr, Option.map_some, Option.map_none, List.map_cons, List.map_nil, if_true, if_false, Bool.not_true, Bool.not_false, Bool.false_eq_true, reduceIte, decide_true, decide_false, Int.reduceLT, Int.reduceLE, Int.reduceGT, Int.reduceGE, Int.reduceEq, Int.reduceBEq, Int.reduceBNe, load_ptr, ldV_some, cellAt_cells, List.getElem?_cons_zero, List.getElem?_cons_succ, store_ptr, stO_some, setAt_0, setAt_1, setAt_2, setAt_3, setAt_4, setAt_5, setAt_6, setAt_7, setAt_8, setAt_9, setAt_10, setAt_11, setAt_12, cells_int, cells_bool, cells_str, cells_nils, cells_nilp, cells_ptr, cells_sl, cells_u8, cells_u16, cells_agg, get_upd_is, Option.isSome_some, upd_upd, ev1_nchkV, ev1_faV, nchkV_ptr, faV_ptr, ev1_extV, extV_tup, eqptr_nil, eqptr_ptr, Nat.zero_add, Nat.add_zero, qPL0, qPL1, qPL2, qPL3, qPL4, qPL5, beq_self_eq_true]
  · rw [decide_eq_false h] at g1
    have e : len16 m = len8 m := by unfold len16; rw [if_neg h]
    have l1 := len8_at m (by omega)
    have l2 := len8_le m (by omega)
    have w1 : IntKind.u8.wrap ((m : Nat) : Int) = ((m : Nat) : Int) := u8w _ (by omega) (by omega)
    have w3 : IntKind.i64.wrap ((len8 m : Nat) : Int) = ((len8 m : Nat) : Int) := wrapI _ (by omega) (by omega)
    simp only [M63, g1, w1, l1, w3, e, conv_int, ev1_ixsV, Int.zero_add, qES0, qES1, qES2, env0, List.length_cons, List.length_nil, Nat.reduceAdd, Nat.reduceSub, List.replicate, List.cons_append, List.nil_append, opd, Env.put, Env.at, List.set_cons_zero, List.set_cons_succ, List.getD_cons_zero, List.getD_cons_succ, freezeL, resVs, oneOr, Option.map_some, Option.map_none, List.map_cons, List.map_nil, if_true, if_false, Bool.not_true, Bool.not_false, Bool.false_eq_true, reduceIte, decide_true, decide_false, Int.reduceLT, Int.reduceLE, Int.reduceGT, Int.reduceGE, Int.reduceEq, Int.reduceBEq, Int.reduceBNe, load_ptr, ldV_some, cellAt_cells, List.getElem?_cons_zero, List.getElem?_cons_succ, store_ptr, stO_some, setAt_0, setAt_1, setAt_2, setAt_3, setAt_4, setAt_5, setAt_6, setAt_7, setAt_8, setAt_9, setAt_10, setAt_11, setAt_12, cells_int, cells_bool, cells_str, cells_nils, cells_nilp, cells_ptr, cells_sl, cells_u8, cells_u16, cells_agg, get_upd_is, Option.isSome_some, upd_upd, ev1_nchkV, ev1_faV, nchkV_ptr, faV_ptr, ev1_extV, extV_tup, eqptr_nil, eqptr_ptr, Nat.zero_add, Nat.add_zero, qPL0, qPL1, qPL2, qPL3, qPL4, qPL5, beq_self_eq_true]
theorem high_ev (k : Nat) (n : Int) (s : St) : evT (k + 2) 26 [.int .i64 n] s = some (.int .i64 (highZ n), s) := by
  rw [show k + 2 = (k + 1) + 1 from rfl, evT_in rfl tab26]
  have a := and_65535 n
  obtain ⟨m, hm⟩ : ∃ m : Nat, n % 65536 = (m : Int) := ⟨(n % 65536).toNat, by omega⟩
  have hm2 : m < 65536 := by omega
  rw [hm] at a
  have w1 : IntKind.u16.wrap (m : Int) = (m : Int) := u16w _ (by omega) (by omega)
  have h63 := len16_ev k m hm2
  have hl : len16 m ≤ 16 := by
    unfold len16; split
    · have := len8_le (m / 256) (by omega); omega
    · have := len8_le m (by omega); omega
  have w2 : IntKind.i64.wrap ((len16 m : Int) - 1) = (len16 m : Int) - 1 := wrapI _ (by omega) (by omega)
  have e : highZ n = (len16 m : Int) - 1 := by unfold highZ; rw [hm, hi_len m hm2]; rfl
  simp only [M26, a, w1, h63, w2, e, conv_int, qES0, qES1, qES2, env0, List.length_cons, List.length_nil, Nat.reduceAdd, Nat.reduceSub, List.replicate, List.cons_append, List.nil_append, opd, Env.put, Env.at, List.set_cons_zero, List.set_cons_succ, List.getD_cons_zero, List.getD_cons_succ, freezeL, resVs, oneOr, Option.map_some, Option.map_none, List.map_cons, List.map_nil, if_true, if_false, Bool.not_true, Bool.not_false, Bool.false_eq_true, reduceIte, decide_true, decide_false, Int.reduceLT, Int.reduceLE, Int.reduceGT, Int.reduceGE, Int.reduceEq, Int.reduceBEq, Int.reduceBNe, load_ptr, ldV_some, cellAt_cells, List.getElem?_cons_zero, List.getElem?_cons_succ, store_ptr, stO_some, setAt_0, setAt_1, setAt_2, setAt_3, setAt_4, setAt_5, setAt_6, setAt_7, setAt_8, setAt_9, setAt_10, setAt_11, setAt_12, cells_int, cells_bool, cells_str, cells_nils, cells_nilp, cells_ptr, cells_sl, cells_u8, cells_u16, cells_agg, get_upd_is, Option.isSome_some, upd_upd, ev1_nchkV, ev1_faV, nchkV_ptr, faV_ptr, ev1_extV, extV_tup, eqptr_nil, eqptr_ptr, Nat.zero_add, Nat.add_zero, qPL0, qPL1, qPL2, qPL3, qPL4, qPL5, beq_self_eq_true]
theorem tz_ev (k : Nat) (m : Nat) (hm : m < 65536) (h0 : 0 < m) (s : St) : evT (k + 1) 65 [.int .u16 (m : Int)] s = some (.int .i64 (tzK m : Int), s) := by
  rw [evT_in rfl tab65]
  have e0 : binV .eql (.int .u16 (m : Int)) (.int .u16 0) = some (.bool false) := by
    show some (AV.bool ((m : Int) == 0)) = _
    congr 2; simp; omega
  have hc := (tz_at m hm h0).2
  have w0 : IntKind.u16.wrap (0 - (m : Int)) = ((65536 - m : Nat) : Int) := by
    simp only [IntKind.wrap, IntKind.bits, IntKind.signed]; simp; omega
  have a0 : binV .and (.int .u16 (m : Int)) (.int .u16 ((65536 - m : Nat) : Int)) = some (.int .u16 ((m &&& (65536 - m) : Nat) : Int)) := by
    show some (AV.int .u16 (IntKind.u16.wrap ((BitVec.ofInt 16 (m : Int) &&& BitVec.ofInt 16 ((65536 - m : Nat) : Int)).toNat : Int))) = _
    have hx : (BitVec.ofInt 16 (m : Int) &&& BitVec.ofInt 16 ((65536 - m : Nat) : Int)).toNat = m &&& (65536 - m) := by
      rw [BitVec.toNat_and, BitVec.toNat_ofInt, BitVec.toNat_ofInt]
      have q1 : ((m : Int) % ((2 ^ 16 : Nat) : Int)).toNat = m := by omega
      have q2 : (((65536 - m : Nat) : Int) % ((2 ^ 16 : Nat) : Int)).toNat = 65536 - m := by omega
      rw [q1, q2]
    rw [hx, u16w _ (by omega) (by have := Nat.and_le_left (n := m) (m := 65536 - m); omega)]
  obtain ⟨x, hx⟩ : ∃ x, x = m &&& (65536 - m) := ⟨_, rfl⟩
  have hxl : x < 65536 := by have := Nat.and_le_left (n := m) (m := 65536 - m); omega
  have hF : dbrK ((x * 125613361 % 4294967296) / 134217728) = tzK m := by rw [hx]; rfl
  rw [← hx] at a0
  have c1 : IntKind.u32.wrap ((x : Nat) : Int) = ((x : Nat) : Int) := u32w _ (by omega) (by omega)
  have m1 : binV .mul (.int .u32 (x : Int)) (.int .u32 125613361) = some (.int .u32 ((x * 125613361 % 4294967296 : Nat) : Int)) := by
    show some (AV.int .u32 (IntKind.u32.wrap ((x : Int) * 125613361))) = _
    congr 2
  obtain ⟨y, hy⟩ : ∃ y, y = x * 125613361 % 4294967296 := ⟨_, rfl⟩
  rw [← hy] at m1 hF
  have s1 : binV .shr (.int .u32 (y : Int)) (.int .u64 27) = some (.int .u32 ((y / 134217728 : Nat) : Int)) := by
    show some (AV.int .u32 ((y : Int).fdiv 134217728)) = _
    rw [Int.fdiv_eq_ediv_of_nonneg _ (by omega)]; rfl
  obtain ⟨z, hz⟩ : ∃ z, z = y / 134217728 := ⟨_, rfl⟩
  rw [← hz] at s1 hF
  have hzl : z < 32 := by omega
  have hT : dbrT.getD z 0 = (tzK m : Int) := by
    rw [← hF]
    exact of_decide_eq_true (List.all_eq_true.1 dbrK_ok z (List.mem_range.2 hzl))
  have i1 : ixpV 32 1 (tabGl 0) (.int .u32 (z : Int)) = some (.rp ((dbrL.drop z).map (.int .u8 ·))) := by
    show (match idx 32 (AV.int .u32 (z : Int)) with
      | some j => if j * 1 ≤ (dbrL.map (AV.int .u8 ·)).length then some (AV.rp ((dbrL.map (AV.int .u8 ·)).drop (j * 1))) else none
      | none => none) = _
    have : idx 32 (AV.int .u32 (z : Int)) = some z := by simp [idx]; omega
    rw [this]
    simp only [Nat.mul_one, List.map_drop]
    rw [if_pos (by simp [dbrL]; omega)]
  have c0 : Ab.cut ((dbrL.drop z).map (AV.int .u8 ·)) 0 none = some (.int .u8 (tzK m : Int)) := by
    simp only [Ab.cut, List.getElem?_map, List.getElem?_drop, Nat.add_zero]
    rw [← hT, List.getD_eq_getElem?_getD]
    show _ = some (AV.int .u8 ((dbrL[z]?).getD 0))
    rw [List.getElem?_eq_getElem (by simp [dbrL]; omega)]
    rfl
  have w2 : IntKind.i64.wrap ((tzK m : Nat) : Int) = ((tzK m : Nat) : Int) := wrapI _ (by omega) (by omega)
  simp only [M65, e0, w0, a0, c1, m1, s1, i1, c0, w2, neg_int, conv_int, ev1_ixpV, ev1_load, loadR_rp, qES0, qES1, qES2, env0, List.length_cons, List.length_nil, Nat.reduceAdd, Nat.reduceSub, List.replicate, List.cons_append, List.nil_append, opd, Env.put, Env.at, List.set_cons_zero, List.set_cons_succ, List.getD_cons_zero, List.getD_cons_succ, freezeL, resVs, oneOr, Option.map_some, Option.map_none, List.map_cons, List.map_nil, if_true, if_false, Bool.not_true, Bool.not_false, Bool.false_eq_true, reduceIte, decide_true, decide_false, Int.reduceLT, Int.reduceLE, Int.reduceGT, Int.reduceGE, Int.reduceEq, Int.reduceBEq, Int.reduceBNe, load_ptr, ldV_some, cellAt_cells, List.getElem?_cons_zero, List.getElem?_cons_succ, store_ptr, stO_some, setAt_0, setAt_1, setAt_2, setAt_3, setAt_4, setAt_5, setAt_6, setAt_7, setAt_8, setAt_9, setAt_10, setAt_11, setAt_12, cells_int, cells_bool, cells_str, cells_nils, cells_nilp, cells_ptr, cells_sl, cells_u8, cells_u16, cells_agg, get_upd_is, Option.isSome_some, upd_upd, ev1_nchkV, ev1_faV, nchkV_ptr, faV_ptr, ev1_extV, extV_tup, eqptr_nil, eqptr_ptr, Nat.zero_add, Nat.add_zero, qPL0, qPL1, qPL2, qPL3, qPL4, qPL5, beq_self_eq_true]
theorem low_ev (k : Nat) (n : Int) (s : St) : evT (k + 2) 28 [.int .i64 n] s = some (.int .i64 (lowZ n), s) := by
  rw [show k + 2 = (k + 1) + 1 from rfl, evT_in rfl tab28]
  have a := and_65535 n
  obtain ⟨m, hm⟩ : ∃ m : Nat, n % 65536 = (m : Int) := ⟨(n % 65536).toNat, by omega⟩
  have hm2 : m < 65536 := by omega
  rw [hm] at a
  have w1 : IntKind.u16.wrap (m : Int) = (m : Int) := u16w _ (by omega) (by omega)
  by_cases h : m = 0
  · have e : lowZ n = -1 := by unfold lowZ; rw [hm, h]; exact loW_none 16 0
    subst h
    simp only [M28, a, e, Int.natCast_zero, qES0, qES1, qES2, env0, List.length_cons, List.length_nil, Nat.reduceAdd, Nat.reduceSub, List.replicate, List.cons_append, List.nil_append, opd, Env.put, Env.at, List.set_cons_zero, List.set_cons_succ, List.getD_cons_zero, List.getD_cons_succ, freezeL, resVs, oneOr, Option.map_some, Option.map_none, List.map_cons, List.map_nil, if_true, if_false, Bool.not_true, Bool.not_false, Bool.false_eq_true, reduceIte, decide_true, decide_false, Int.reduceLT, Int.reduceLE, Int.reduceGT, Int.reduceGE, Int.reduceEq, Int.reduceBEq, Int.reduceBNe, load_ptr, ldV_some, cellAt_cells, List.getElem?_cons_zero, List.getElem?_cons_succ, store_ptr, stO_some, setAt_0, setAt_1, setAt_2, setAt_3, setAt_4, setAt_5, setAt_6, setAt_7, setAt_8, setAt_9, setAt_10, setAt_11, setAt_12, cells_int, cells_bool, cells_str, cells_nils, cells_nilp, cells_ptr, cells_sl, cells_u8, cells_u16, cells_agg, get_upd_is, Option.isSome_some, upd_upd, ev1_nchkV, ev1_faV, nchkV_ptr, faV_ptr, ev1_extV, extV_tup, eqptr_nil, eqptr_ptr, Nat.zero_add, Nat.add_zero, qPL0, qPL1, qPL2, qPL3, qPL4, qPL5, beq_self_eq_true]
  · have h65 := tz_ev k m hm2 (by omega)
    have e : lowZ n = (tzK m : Int) := by unfold lowZ; rw [hm]; exact (tz_at m hm2 (by omega)).1.symm
    have q : ((m : Int) == 0) = false := by simp; omega
    simp only [M28, a, q, w1, h65, e, conv_int, qES0, qES1, qES2, env0, List.length_cons, List.length_nil, Nat.reduceAdd, Nat.reduceSub, List.replicate, List.cons_append, List.nil_append, opd, Env.put, Env.at, List.set_cons_zero, List.set_cons_succ, List.getD_cons_zero, List.getD_cons_succ, freezeL, resVs, oneOr, Option.map_some, Option.map_none, List.map_cons, List.map_nil, if_true, if_false, Bool.not_true, Bool.not_false, Bool.false_eq_true, reduceIte, decide_true, decide_false, Int.reduceLT, Int.reduceLE, Int.reduceGT, Int.reduceGE, Int.reduceEq, Int.reduceBEq, Int.reduceBNe, load_ptr, ldV_some, cellAt_cells, List.getElem?_cons_zero, List.getElem?_cons_succ, store_ptr, stO_some, setAt_0, setAt_1, setAt_2, setAt_3, setAt_4, setAt_5, setAt_6, setAt_7, setAt_8, setAt_9, setAt_10, setAt_11, setAt_12, cells_int, cells_bool, cells_str, cells_nils, cells_nilp, cells_ptr, cells_sl, cells_u8, cells_u16, cells_agg, get_upd_is, Option.isSome_some, upd_upd, ev1_nchkV, ev1_faV, nchkV_ptr, faV_ptr, ev1_extV, extV_tup, eqptr_nil, eqptr_ptr, Nat.zero_add, Nat.add_zero, qPL0, qPL1, qPL2, qPL3, qPL4, qPL5, beq_self_eq_true]
end Go.Proofs.YtbeimfhodgmjhaaDoor
