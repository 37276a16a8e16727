/- Sets of bits: math/bits, qos.High, Low and the document's, as the evaluator answers them. No conditions. -/
import Derived.Test.YtbeimfhodgmjhaaDoorSet
import Derived.Test.YtbeimfhodgmjhaaDoorM8
import Derived.Test.YtbeimfhodgmjhaaDoorTup
import Derived.Test.YtbeimfhodgmjhaaDoorP8a
import Derived.Test.YtbeimfhodgmjhaaDoorBegunT8
set_option linter.unusedSimpArgs false
set_option linter.unusedVariables false
set_option maxRecDepth 100000
namespace Go.Ab
open Go
theorem neg_int (k : IntKind) (n : Int) : unV .neg (.int k n) = some (.int k (k.wrap (0 - n))) := (id rfl)
theorem wrapB (n : Int) (h : -4611686018427387904 ≤ n) (g : n ≤ 4611686018427387904) : IntKind.i64.wrap n = n := by rw [IntKind.wrap_i64]; omega
theorem map_at {α : Type} {f g : Nat → α} {n : Nat} (h : (List.range n).map f = (List.range n).map g) (j : Nat) (hj : j < n) : f j = g j := by
  have := congrArg (·[j]?) h
  simpa [List.getElem?_map, List.getElem?_range hj] using this
theorem bv_and (n : Int) (m : Nat) (h : m < 2 ^ 64) : (BitVec.ofInt 64 n &&& BitVec.ofInt 64 (m : Int)).toNat = (n % 18446744073709551616).toNat &&& m := by
  rw [BitVec.toNat_and, BitVec.toNat_ofInt, BitVec.toNat_ofInt]
  congr 1
  have : ((m : Int) % ((2 ^ 64 : Nat) : Int)) = m := Int.emod_eq_of_lt (by omega) (by exact_mod_cast h)
  omega
theorem and_max (n : Int) (j : Nat) (h : j ≤ 32) : binV .and (.int .i64 n) (.int .i64 ((2 ^ j - 1 : Nat) : Int)) = some (.int .i64 (n % ((2 ^ j : Nat) : Int))) := by
  have hp : 2 ^ j ≤ 2 ^ 32 := Nat.pow_le_pow_right (by omega) h
  have hp0 : 0 < 2 ^ j := Nat.pow_pos (by omega)
  show some (AV.int .i64 (IntKind.i64.wrap ((BitVec.ofInt 64 n &&& BitVec.ofInt 64 ((2 ^ j - 1 : Nat) : Int)).toNat : Int))) = _
  rw [bv_and n _ (by omega), Nat.and_two_pow_sub_one_eq_mod]
  have h1 : (18446744073709551616 : Int) = ((2 ^ j : Nat) : Int) * ((2 ^ (64 - j) : Nat) : Int) := by
    rw [← Int.natCast_mul, ← Nat.pow_add, show j + (64 - j) = 64 by omega]; rfl
  have h2 : (((n % 18446744073709551616).toNat % 2 ^ j : Nat) : Int) = n % ((2 ^ j : Nat) : Int) := by
    rw [Int.natCast_emod, Int.toNat_of_nonneg (by omega), Int.emod_emod_of_dvd n ⟨_, h1⟩]
  rw [h2, wrapB _ (by have := Int.emod_nonneg n (show ((2 ^ j : Nat) : Int) ≠ 0 by omega); omega) (by have := Int.emod_lt_of_pos n (show (0 : Int) < ((2 ^ j : Nat) : Int) by omega); omega)]
theorem and_65535 (n : Int) : binV .and (.int .i64 n) (.int .i64 65535) = some (.int .i64 (n % 65536)) := and_max n 16 (by omega)
def ixpV (len size : Nat) (x i : AV) : Option AV :=
  match x with
  | .ptr b o => match idx len i with
    | some j => some (.ptr b (o + j * size))
    | none => none
  | .rp cs => match idx len i with
    | some j => if j * size ≤ cs.length then some (.rp (cs.drop (j * size))) else none
    | none => none
  | _ => none
theorem ev1_ixpV (gl : Nat → AV) (call : Calls') (e : Env) (s : St) (len size : Nat) (x i : Opd) : ev1 gl call e s (.ixp len size x i) = pR s (ixpV len size (opd gl e x) (opd gl e i)) := by
  rw [ev1_ixp]; rfl
theorem and_1 (n : Int) : binV .and (.int .i64 n) (.int .i64 1) = some (.int .i64 (n % 2)) := and_max n 1 (by omega)
end Go.Ab
namespace Go.Proofs.YtbeimfhodgmjhaaDoor
open Go Go.Ab
theorem u16w (n : Int) (h0 : 0 ≤ n) (h1 : n < 65536) : IntKind.u16.wrap n = n := by
  simp only [IntKind.wrap, IntKind.bits, IntKind.signed]; simp; omega
theorem u8w (n : Int) (h0 : 0 ≤ n) (h1 : n < 256) : IntKind.u8.wrap n = n := by
  simp only [IntKind.wrap, IntKind.bits, IntKind.signed]; simp; omega
theorem u32w (n : Int) (h0 : 0 ≤ n) (h1 : n < 4294967296) : IntKind.u32.wrap n = n := by
  simp only [IntKind.wrap, IntKind.bits, IntKind.signed]; simp; omega
theorem len8_tab : (List.range 256).map (fun (j : Nat) => ixsV (.str lit63_0) (.int .u8 (j : Int))) = (List.range 256).map (fun (j : Nat) => some (.int .u8 (len8 j : Int))) := by kernel_rfl
theorem len8_at (j : Nat) (hj : j < 256) : ixsV (.str lit63_0) (.int .u8 (j : Int)) = some (.int .u8 (len8 j : Int)) := map_at len8_tab j hj
theorem len8_le (j : Nat) (hj : j < 256) : len8 j ≤ 8 := by
  unfold len8; split
  · omega
  · have := Nat.log2_lt (n := j) (k := 8) (by omega); omega
theorem len16_ev (k : Nat) (m : Nat) (hm : m < 65536) (s : St) : evT (k + 1) 63 [.int .u16 (m : Int)] s = some (.int .i64 (len16 m : Int), s) := by
  rw [evT_in rfl tab63]
  have g1 : binV .geq (.int .u16 (m : Int)) (.int .u16 256) = some (.bool (decide (m ≥ 256))) := by
    show some (AV.bool (decide ((m : Int) ≥ 256))) = _
    rw [show decide ((m : Int) ≥ 256) = decide (m ≥ 256) from decide_eq_decide.2 (by omega)]
  have s1 : binV .shr (.int .u16 (m : Int)) (.int .u64 8) = some (.int .u16 ((m / 256 : Nat) : Int)) := by
    show some (AV.int .u16 ((m : Int).fdiv 256)) = _
    rw [Int.fdiv_eq_ediv_of_nonneg _ (by omega)]; rfl
  have w1 : IntKind.u8.wrap ((m / 256 : Nat) : Int) = ((m / 256 : Nat) : Int) := u8w _ (by omega) (by omega)
  have l1 := len8_at (m / 256) (by omega)
  have l2 := len8_le (m / 256) (by omega)
  have w3 : IntKind.i64.wrap ((len8 (m / 256) : Nat) : Int) = ((len8 (m / 256) : Nat) : Int) := wrapI _ (by omega) (by omega)
  have w4 : IntKind.i64.wrap (8 + ((len8 (m / 256) : Nat) : Int)) = ((len8 (m / 256) + 8 : Nat) : Int) := (wrapI _ (by omega) (by omega)).trans (by omega)
  by_cases h : m ≥ 256
  · rw [decide_eq_true h] at g1
    have e : len16 m = len8 (m / 256) + 8 := by unfold len16; rw [if_pos h]
    simp only [M63, g1, s1, w1, l1, w3, w4, e, conv_int, ev1_ixsV, qES0, qES1, qES2, env0, List.length_cons, List.length_nil, Nat.reduceAdd, Nat.reduceSub, List.replicate, List.cons_append, List.nil_append, opd, Env.put, Env.at, List.set_cons_zero, List.set_cons_succ, List.getD_cons_zero, List.getD_cons_succ, freezeL, resVs, oneOr, Option.map_some, Option.map_none, List.map_cons, List.map_nil, if_true, if_false, Bool.not_true, Bool.not_false, Bool.false_eq_true, reduceIte, decide_true, decide_false, Int.reduceLT, Int.reduceLE, Int.reduceGT, Int.reduceGE, Int.reduceEq, Int.reduceBEq, Int.reduceBNe, load_ptr, ldV_some, cellAt_cells, List.getElem?_cons_zero, List.getElem?_cons_succ, store_ptr, stO_some, setAt_0, setAt_1, setAt_2, setAt_3, setAt_4, setAt_5, setAt_6, setAt_7, setAt_8, setAt_9, setAt_10, setAt_11, setAt_12, cells_int, cells_bool, cells_str, cells_nils, cells_nilp, cells_ptr, cells_sl, cells_u8, cells_u16, cells_agg, get_upd_is, Option.isSome_some, upd_upd, ev1_nchkV, ev1_faV, nchkV_ptr, faV_ptr, ev1_extV, extV_tup, eqptr_nil, eqptr_ptr, Nat.zero_add, Nat.add_zero, qPL0, qPL1, qPL2, qPL3, qPL4, qPL5, beq_self_eq_true]
  · rw [decide_eq_false h] at g1
    have e : len16 m = len8 m := by unfold len16; rw [if_neg h]
    have l1 := len8_at m (by omega)
    have l2 := len8_le m (by omega)
    have w1 : IntKind.u8.wrap ((m : Nat) : Int) = ((m : Nat) : Int) := u8w _ (by omega) (by omega)
    have w3 : IntKind.i64.wrap ((len8 m : Nat) : Int) = ((len8 m : Nat) : Int) := wrapI _ (by omega) (by omega)
    simp only [M63, g1, w1, l1, w3, e, conv_int, ev1_ixsV, Int.zero_add, qES0, qES1, qES2, env0, List.length_cons, List.length_nil, Nat.reduceAdd, Nat.reduceSub, List.replicate, List.cons_append, List.nil_append, opd, Env.put, Env.at, List.set_cons_zero, List.set_cons_succ, List.getD_cons_zero, List.getD_cons_succ, freezeL, resVs, oneOr, Option.map_some, Option.map_none, List.map_cons, List.map_nil, if_true, if_false, Bool.not_true, Bool.not_false, Bool.false_eq_true, reduceIte, decide_true, decide_false, Int.reduceLT, Int.reduceLE, Int.reduceGT, Int.reduceGE, Int.reduceEq, Int.reduceBEq, Int.reduceBNe, load_ptr, ldV_some, cellAt_cells, List.getElem?_cons_zero, List.getElem?_cons_succ, store_ptr, stO_some, setAt_0, setAt_1, setAt_2, setAt_3, setAt_4, setAt_5, setAt_6, setAt_7, setAt_8, setAt_9, setAt_10, setAt_11, setAt_12, cells_int, cells_bool, cells_str, cells_nils, cells_nilp, cells_ptr, cells_sl, cells_u8, cells_u16, cells_agg, get_upd_is, Option.isSome_some, upd_upd, ev1_nchkV, ev1_faV, nchkV_ptr, faV_ptr, ev1_extV, extV_tup, eqptr_nil, eqptr_ptr, Nat.zero_add, Nat.add_zero, qPL0, qPL1, qPL2, qPL3, qPL4, qPL5, beq_self_eq_true]
theorem high_ev (k : Nat) (n : Int) (s : St) : evT (k + 2) 26 [.int .i64 n] s = some (.int .i64 (highZ n), s) := by
  rw [show k + 2 = (k + 1) + 1 from rfl, evT_in rfl tab26]
  have a := and_65535 n
  obtain ⟨m, hm⟩ : ∃ m : Nat, n % 65536 = (m : Int) := ⟨(n % 65536).toNat, by omega⟩
  have hm2 : m < 65536 := by omega
  rw [hm] at a
  have w1 : IntKind.u16.wrap (m : Int) = (m : Int) := u16w _ (by omega) (by omega)
  have h63 := len16_ev k m hm2
  have hl : len16 m ≤ 16 := by
    unfold len16; split
    · have := len8_le (m / 256) (by omega); omega
    · have := len8_le m (by omega); omega
  have w2 : IntKind.i64.wrap ((len16 m : Int) - 1) = (len16 m : Int) - 1 := wrapI _ (by omega) (by omega)
  have e : highZ n = (len16 m : Int) - 1 := by unfold highZ; rw [hm, hi_len m hm2]; rfl
  simp only [M26, a, w1, h63, w2, e, conv_int, qES0, qES1, qES2, env0, List.length_cons, List.length_nil, Nat.reduceAdd, Nat.reduceSub, List.replicate, List.cons_append, List.nil_append, opd, Env.put, Env.at, List.set_cons_zero, List.set_cons_succ, List.getD_cons_zero, List.getD_cons_succ, freezeL, resVs, oneOr, Option.map_some, Option.map_none, List.map_cons, List.map_nil, if_true, if_false, Bool.not_true, Bool.not_false, Bool.false_eq_true, reduceIte, decide_true, decide_false, Int.reduceLT, Int.reduceLE, Int.reduceGT, Int.reduceGE, Int.reduceEq, Int.reduceBEq, Int.reduceBNe, load_ptr, ldV_some, cellAt_cells, List.getElem?_cons_zero, List.getElem?_cons_succ, store_ptr, stO_some, setAt_0, setAt_1, setAt_2, setAt_3, setAt_4, setAt_5, setAt_6, setAt_7, setAt_8, setAt_9, setAt_10, setAt_11, setAt_12, cells_int, cells_bool, cells_str, cells_nils, cells_nilp, cells_ptr, cells_sl, cells_u8, cells_u16, cells_agg, get_upd_is, Option.isSome_some, upd_upd, ev1_nchkV, ev1_faV, nchkV_ptr, faV_ptr, ev1_extV, extV_tup, eqptr_nil, eqptr_ptr, Nat.zero_add, Nat.add_zero, qPL0, qPL1, qPL2, qPL3, qPL4, qPL5, beq_self_eq_true]
theorem tz_ev (k : Nat) (m : Nat) (hm : m < 65536) (h0 : 0 < m) (s : St) : evT (k + 1) 65 [.int .u16 (m : Int)] s = some (.int .i64 (tzK m : Int), s) := by
  rw [evT_in rfl tab65]
  have e0 : binV .eql (.int .u16 (m : Int)) (.int .u16 0) = some (.bool false) := by
    show some (AV.bool ((m : Int) == 0)) = _
    congr 2; simp; omega
  have hc := (tz_at m hm h0).2
  have w0 : IntKind.u16.wrap (0 - (m : Int)) = ((65536 - m : Nat) : Int) := by
    simp only [IntKind.wrap, IntKind.bits, IntKind.signed]; simp; omega
  have a0 : binV .and (.int .u16 (m : Int)) (.int .u16 ((65536 - m : Nat) : Int)) = some (.int .u16 ((m &&& (65536 - m) : Nat) : Int)) := by
    show some (AV.int .u16 (IntKind.u16.wrap ((BitVec.ofInt 16 (m : Int) &&& BitVec.ofInt 16 ((65536 - m : Nat) : Int)).toNat : Int))) = _
    have hx : (BitVec.ofInt 16 (m : Int) &&& BitVec.ofInt 16 ((65536 - m : Nat) : Int)).toNat = m &&& (65536 - m) := by
      rw [BitVec.toNat_and, BitVec.toNat_ofInt, BitVec.toNat_ofInt]
      have q1 : ((m : Int) % ((2 ^ 16 : Nat) : Int)).toNat = m := by omega
      have q2 : (((65536 - m : Nat) : Int) % ((2 ^ 16 : Nat) : Int)).toNat = 65536 - m := by omega
      rw [q1, q2]
    rw [hx, u16w _ (by omega) (by have := Nat.and_le_left (n := m) (m := 65536 - m); omega)]
  obtain ⟨x, hx⟩ : ∃ x, x = m &&& (65536 - m) := ⟨_, rfl⟩
  have hxl : x < 65536 := by have := Nat.and_le_left (n := m) (m := 65536 - m); omega
  have hF : dbrK ((x * 125613361 % 4294967296) / 134217728) = tzK m := by rw [hx]; rfl
  rw [← hx] at a0
  have c1 : IntKind.u32.wrap ((x : Nat) : Int) = ((x : Nat) : Int) := u32w _ (by omega) (by omega)
  have m1 : binV .mul (.int .u32 (x : Int)) (.int .u32 125613361) = some (.int .u32 ((x * 125613361 % 4294967296 : Nat) : Int)) := by
    show some (AV.int .u32 (IntKind.u32.wrap ((x : Int) * 125613361))) = _
    congr 2
  obtain ⟨y, hy⟩ : ∃ y, y = x * 125613361 % 4294967296 := ⟨_, rfl⟩
  rw [← hy] at m1 hF
  have s1 : binV .shr (.int .u32 (y : Int)) (.int .u64 27) = some (.int .u32 ((y / 134217728 : Nat) : Int)) := by
    show some (AV.int .u32 ((y : Int).fdiv 134217728)) = _
    rw [Int.fdiv_eq_ediv_of_nonneg _ (by omega)]; rfl
  obtain ⟨z, hz⟩ : ∃ z, z = y / 134217728 := ⟨_, rfl⟩
  rw [← hz] at s1 hF
  have hzl : z < 32 := by omega
  have hT : dbrT.getD z 0 = (tzK m : Int) := by
    rw [← hF]
    exact of_decide_eq_true (List.all_eq_true.1 dbrK_ok z (List.mem_range.2 hzl))
  have i1 : ixpV 32 1 (tabGl 0) (.int .u32 (z : Int)) = some (.rp ((dbrL.drop z).map (.int .u8 ·))) := by
    show (match idx 32 (AV.int .u32 (z : Int)) with
      | some j => if j * 1 ≤ (dbrL.map (AV.int .u8 ·)).length then some (AV.rp ((dbrL.map (AV.int .u8 ·)).drop (j * 1))) else none
      | none => none) = _
    have : idx 32 (AV.int .u32 (z : Int)) = some z := by simp [idx]; omega
    rw [this]
    simp only [Nat.mul_one, List.map_drop]
    rw [if_pos (by simp [dbrL]; omega)]
  have c0 : Ab.cut ((dbrL.drop z).map (AV.int .u8 ·)) 0 none = some (.int .u8 (tzK m : Int)) := by
    simp only [Ab.cut, List.getElem?_map, List.getElem?_drop, Nat.add_zero]
    rw [← hT, List.getD_eq_getElem?_getD]
    show _ = some (AV.int .u8 ((dbrL[z]?).getD 0))
    rw [List.getElem?_eq_getElem (by simp [dbrL]; omega)]
    rfl
  have w2 : IntKind.i64.wrap ((tzK m : Nat) : Int) = ((tzK m : Nat) : Int) := wrapI _ (by omega) (by omega)
  simp only [M65, e0, w0, a0, c1, m1, s1, i1, c0, w2, neg_int, conv_int, ev1_ixpV, ev1_load, loadR_rp, qES0, qES1, qES2, env0, List.length_cons, List.length_nil, Nat.reduceAdd, Nat.reduceSub, List.replicate, List.cons_append, List.nil_append, opd, Env.put, Env.at, List.set_cons_zero, List.set_cons_succ, List.getD_cons_zero, List.getD_cons_succ, freezeL, resVs, oneOr, Option.map_some, Option.map_none, List.map_cons, List.map_nil, if_true, if_false, Bool.not_true, Bool.not_false, Bool.false_eq_true, reduceIte, decide_true, decide_false, Int.reduceLT, Int.reduceLE, Int.reduceGT, Int.reduceGE, Int.reduceEq, Int.reduceBEq, Int.reduceBNe, load_ptr, ldV_some, cellAt_cells, List.getElem?_cons_zero, List.getElem?_cons_succ, store_ptr, stO_some, setAt_0, setAt_1, setAt_2, setAt_3, setAt_4, setAt_5, setAt_6, setAt_7, setAt_8, setAt_9, setAt_10, setAt_11, setAt_12, cells_int, cells_bool, cells_str, cells_nils, cells_nilp, cells_ptr, cells_sl, cells_u8, cells_u16, cells_agg, get_upd_is, Option.isSome_some, upd_upd, ev1_nchkV, ev1_faV, nchkV_ptr, faV_ptr, ev1_extV, extV_tup, eqptr_nil, eqptr_ptr, Nat.zero_add, Nat.add_zero, qPL0, qPL1, qPL2, qPL3, qPL4, qPL5, beq_self_eq_true]
theorem low_ev (k : Nat) (n : Int) (s : St) : evT (k + 2) 28 [.int .i64 n] s = some (.int .i64 (lowZ n), s) := by
  rw [show k + 2 = (k + 1) + 1 from rfl, evT_in rfl tab28]
  have a := and_65535 n
  obtain ⟨m, hm⟩ : ∃ m : Nat, n % 65536 = (m : Int) := ⟨(n % 65536).toNat, by omega⟩
  have hm2 : m < 65536 := by omega
  rw [hm] at a
  have w1 : IntKind.u16.wrap (m : Int) = (m : Int) := u16w _ (by omega) (by omega)
  by_cases h : m = 0
  · have e : lowZ n = -1 := by unfold lowZ; rw [hm, h]; exact loW_none 16 0
    subst h
    simp only [M28, a, e, Int.natCast_zero, qES0, qES1, qES2, env0, List.length_cons, List.length_nil, Nat.reduceAdd, Nat.reduceSub, List.replicate, List.cons_append, List.nil_append, opd, Env.put, Env.at, List.set_cons_zero, List.set_cons_succ, List.getD_cons_zero, List.getD_cons_succ, freezeL, resVs, oneOr, Option.map_some, Option.map_none, List.map_cons, List.map_nil, if_true, if_false, Bool.not_true, Bool.not_false, Bool.false_eq_true, reduceIte, decide_true, decide_false, Int.reduceLT, Int.reduceLE, Int.reduceGT, Int.reduceGE, Int.reduceEq, Int.reduceBEq, Int.reduceBNe, load_ptr, ldV_some, cellAt_cells, List.getElem?_cons_zero, List.getElem?_cons_succ, store_ptr, stO_some, setAt_0, setAt_1, setAt_2, setAt_3, setAt_4, setAt_5, setAt_6, setAt_7, setAt_8, setAt_9, setAt_10, setAt_11, setAt_12, cells_int, cells_bool, cells_str, cells_nils, cells_nilp, cells_ptr, cells_sl, cells_u8, cells_u16, cells_agg, get_upd_is, Option.isSome_some, upd_upd, ev1_nchkV, ev1_faV, nchkV_ptr, faV_ptr, ev1_extV, extV_tup, eqptr_nil, eqptr_ptr, Nat.zero_add, Nat.add_zero, qPL0, qPL1, qPL2, qPL3, qPL4, qPL5, beq_self_eq_true]
  · have h65 := tz_ev k m hm2 (by omega)
    have e : lowZ n = (tzK m : Int) := by unfold lowZ; rw [hm]; exact (tz_at m hm2 (by omega)).1.symm
    have q : ((m : Int) == 0) = false := by simp; omega
    simp only [M28, a, q, w1, h65, e, conv_int, qES0, qES1, qES2, env0, List.length_cons, List.length_nil, Nat.reduceAdd, Nat.reduceSub, List.replicate, List.cons_append, List.nil_append, opd, Env.put, Env.at, List.set_cons_zero, List.set_cons_succ, List.getD_cons_zero, List.getD_cons_succ, freezeL, resVs, oneOr, Option.map_some, Option.map_none, List.map_cons, List.map_nil, if_true, if_false, Bool.not_true, Bool.not_false, Bool.false_eq_true, reduceIte, decide_true, decide_false, Int.reduceLT, Int.reduceLE, Int.reduceGT, Int.reduceGE, Int.reduceEq, Int.reduceBEq, Int.reduceBNe, load_ptr, ldV_some, cellAt_cells, List.getElem?_cons_zero, List.getElem?_cons_succ, store_ptr, stO_some, setAt_0, setAt_1, setAt_2, setAt_3, setAt_4, setAt_5, setAt_6, setAt_7, setAt_8, setAt_9, setAt_10, setAt_11, setAt_12, cells_int, cells_bool, cells_str, cells_nils, cells_nilp, cells_ptr, cells_sl, cells_u8, cells_u16, cells_agg, get_upd_is, Option.isSome_some, upd_upd, ev1_nchkV, ev1_faV, nchkV_ptr, faV_ptr, ev1_extV, extV_tup, eqptr_nil, eqptr_ptr, Nat.zero_add, Nat.add_zero, qPL0, qPL1, qPL2, qPL3, qPL4, qPL5, beq_self_eq_true]
end Go.Proofs.YtbeimfhodgmjhaaDoor
/- Numbers of offers: qos.Baud, Silent, Size, Ticks, May and the document's, as the evaluator answers them. No conditions. -/
set_option linter.unusedSimpArgs false
set_option linter.unusedVariables false
set_option maxRecDepth 100000
set_option maxHeartbeats 4000000
namespace Go.Proofs.YtbeimfhodgmjhaaDoor
open Go Go.Ab
def baudZ (i : Int) : Int := if i = 0 then 32 else if i = 1 then 64 else if i = 2 then 128 else if i = 3 then 256 else 0
def silentZ (i : Int) : Int := if i = 0 then 200 else if i = 1 then 300 else if i = 2 then 500 else 0
def sizeZ (i : Int) : Int := if i = 0 then 8 else if i = 1 then 16 else if i = 2 then 32 else if i = 3 then 64 else 0
def ticksZ (bytes baud : Int) : Int := if bytes < 1 ∨ baud < 1 then 0 else (bytes - 1) / baud + 1
theorem of_ev (k : Nat) (i : Int) (l : List Int) (tk : Option (Nat × Nat × Nat)) (s : St) : ∃ s', evT (k + 1) 66 [.int .i64 i, .sl (l.map (.int .i64 ·)) l.length tk] s = some (.int .i64 (if i < 0 then 0 else l.getD i.toNat 0), s') := by
  rw [evT_in rfl tab66]
  have hl : lenV (.sl (l.map (.int .i64 ·)) l.length tk) = some (.int .i64 (l.length : Nat)) := rfl
  by_cases h : i < 0
  · have d : decide (i < 0) = true := decide_eq_true h
    rw [if_pos h]
    simp only [M66, d, qES0, qES1, qES2, env0, List.length_cons, List.length_nil, Nat.reduceAdd, Nat.reduceSub, List.replicate, List.cons_append, List.nil_append, opd, Env.put, Env.at, List.set_cons_zero, List.set_cons_succ, List.getD_cons_zero, List.getD_cons_succ, freezeL, resVs, oneOr, Option.map_some, Option.map_none, List.map_cons, List.map_nil, if_true, if_false, Bool.not_true, Bool.not_false, Bool.false_eq_true, reduceIte, decide_true, decide_false, Int.reduceLT, Int.reduceLE, Int.reduceGT, Int.reduceGE, Int.reduceEq, Int.reduceBEq, Int.reduceBNe, load_ptr, ldV_some, cellAt_cells, List.getElem?_cons_zero, List.getElem?_cons_succ, store_ptr, stO_some, setAt_0, setAt_1, setAt_2, setAt_3, setAt_4, setAt_5, setAt_6, setAt_7, setAt_8, setAt_9, setAt_10, setAt_11, setAt_12, cells_int, cells_bool, cells_str, cells_nils, cells_nilp, cells_ptr, cells_sl, cells_u8, cells_u16, cells_agg, get_upd_is, Option.isSome_some, upd_upd, ev1_nchkV, ev1_faV, nchkV_ptr, faV_ptr, ev1_extV, extV_tup, eqptr_nil, eqptr_ptr, Nat.zero_add, Nat.add_zero, qPL0, qPL1, qPL2, qPL3, qPL4, qPL5, beq_self_eq_true]
    exact ⟨_, rfl⟩
  · have d : decide (i < 0) = false := decide_eq_false h
    rw [if_neg h]
    by_cases g : i ≥ (l.length : Nat)
    · have d2 : decide (i ≥ ((l.length : Nat) : Int)) = true := decide_eq_true g
      have e : l.getD i.toNat 0 = 0 := by
        rw [List.getD_eq_getElem?_getD, List.getElem?_eq_none (by omega)]; rfl
      rw [e]
      simp only [M66, d, d2, hl, qES0, qES1, qES2, env0, List.length_cons, List.length_nil, Nat.reduceAdd, Nat.reduceSub, List.replicate, List.cons_append, List.nil_append, opd, Env.put, Env.at, List.set_cons_zero, List.set_cons_succ, List.getD_cons_zero, List.getD_cons_succ, freezeL, resVs, oneOr, Option.map_some, Option.map_none, List.map_cons, List.map_nil, if_true, if_false, Bool.not_true, Bool.not_false, Bool.false_eq_true, reduceIte, decide_true, decide_false, Int.reduceLT, Int.reduceLE, Int.reduceGT, Int.reduceGE, Int.reduceEq, Int.reduceBEq, Int.reduceBNe, load_ptr, ldV_some, cellAt_cells, List.getElem?_cons_zero, List.getElem?_cons_succ, store_ptr, stO_some, setAt_0, setAt_1, setAt_2, setAt_3, setAt_4, setAt_5, setAt_6, setAt_7, setAt_8, setAt_9, setAt_10, setAt_11, setAt_12, cells_int, cells_bool, cells_str, cells_nils, cells_nilp, cells_ptr, cells_sl, cells_u8, cells_u16, cells_agg, get_upd_is, Option.isSome_some, upd_upd, ev1_nchkV, ev1_faV, nchkV_ptr, faV_ptr, ev1_extV, extV_tup, eqptr_nil, eqptr_ptr, Nat.zero_add, Nat.add_zero, qPL0, qPL1, qPL2, qPL3, qPL4, qPL5, beq_self_eq_true]
      exact ⟨_, rfl⟩
    · have d2 : decide (i ≥ ((l.length : Nat) : Int)) = false := decide_eq_false g
      have x : ixaV 1 (.sl (l.map (.int .i64 ·)) l.length tk) (.int .i64 i) = some (.rp ((l.drop i.toNat).map (.int .i64 ·))) := by
        simp only [ixaV, idx]
        rw [if_pos ⟨by omega, by omega⟩]
        simp [List.map_drop]
      have c : Ab.cut ((l.drop i.toNat).map (AV.int .i64 ·)) 0 none = some (.int .i64 (l.getD i.toNat 0)) := by
        simp only [Ab.cut, List.getElem?_map, List.getElem?_drop, Nat.add_zero]
        rw [List.getD_eq_getElem?_getD, List.getElem?_eq_getElem (show i.toNat < l.length by omega)]
        rfl
      simp only [M66, d, d2, hl, x, c, ev1_load, loadR_rp, qES0, qES1, qES2, env0, List.length_cons, List.length_nil, Nat.reduceAdd, Nat.reduceSub, List.replicate, List.cons_append, List.nil_append, opd, Env.put, Env.at, List.set_cons_zero, List.set_cons_succ, List.getD_cons_zero, List.getD_cons_succ, freezeL, resVs, oneOr, Option.map_some, Option.map_none, List.map_cons, List.map_nil, if_true, if_false, Bool.not_true, Bool.not_false, Bool.false_eq_true, reduceIte, decide_true, decide_false, Int.reduceLT, Int.reduceLE, Int.reduceGT, Int.reduceGE, Int.reduceEq, Int.reduceBEq, Int.reduceBNe, load_ptr, ldV_some, cellAt_cells, List.getElem?_cons_zero, List.getElem?_cons_succ, store_ptr, stO_some, setAt_0, setAt_1, setAt_2, setAt_3, setAt_4, setAt_5, setAt_6, setAt_7, setAt_8, setAt_9, setAt_10, setAt_11, setAt_12, cells_int, cells_bool, cells_str, cells_nils, cells_nilp, cells_ptr, cells_sl, cells_u8, cells_u16, cells_agg, get_upd_is, Option.isSome_some, upd_upd, ev1_nchkV, ev1_faV, nchkV_ptr, faV_ptr, ev1_extV, extV_tup, eqptr_nil, eqptr_ptr, Nat.zero_add, Nat.add_zero, qPL0, qPL1, qPL2, qPL3, qPL4, qPL5, beq_self_eq_true]
      exact ⟨_, rfl⟩
theorem f4_2 (a0 a1 a2 a3 : AV) (k : IntKind) (n : Int) : fill1 [a0, a1, a2, a3] 2 1 (.int k n) = some [a0, a1, .int k n, a3] := fill1_c _ _ _ rfl (by simp)
theorem f4_3 (a0 a1 a2 a3 : AV) (k : IntKind) (n : Int) : fill1 [a0, a1, a2, a3] 3 1 (.int k n) = some [a0, a1, a2, .int k n] := fill1_c _ _ _ rfl (by simp)
theorem getD4 (i : Int) (a b c d : Int) (h : ¬ i < 0) : [a, b, c, d].getD i.toNat 0 = if i = 0 then a else if i = 1 then b else if i = 2 then c else if i = 3 then d else 0 := by
  obtain ⟨n, rfl⟩ : ∃ n : Nat, i = n := ⟨i.toNat, by omega⟩
  rw [Int.toNat_natCast]
  match n with
  | 0 => rfl
  | 1 => rfl
  | 2 => rfl
  | 3 => rfl
  | n + 4 =>
    have : [a, b, c, d].getD (n + 4) 0 = 0 := rfl
    rw [this]; repeat' split
    all_goals omega
theorem getD3 (i : Int) (a b c : Int) (h : ¬ i < 0) : [a, b, c].getD i.toNat 0 = if i = 0 then a else if i = 1 then b else if i = 2 then c else 0 := by
  obtain ⟨n, rfl⟩ : ∃ n : Nat, i = n := ⟨i.toNat, by omega⟩
  rw [Int.toNat_natCast]
  match n with
  | 0 => rfl
  | 1 => rfl
  | 2 => rfl
  | n + 3 =>
    have : [a, b, c].getD (n + 3) 0 = 0 := rfl
    rw [this]; repeat' split
    all_goals omega
theorem baud_val (i : Int) (s : St) : valR (evT 1000 30 [.int .i64 i] (s.pl [])) = some (.int .i64 (baudZ i)) := by
  rw [show (1000 : Nat) = 998 + 1 + 1 from rfl, evT_in rfl tab30]
  obtain ⟨s1, h⟩ := of_ev 998 i [32, 64, 128, 256] (some (s.next, 0, 1)) (s.pl [.tick 1 0])
  have e : (if i < 0 then 0 else [32, 64, 128, 256].getD i.toNat 0) = baudZ i := by
    unfold baudZ
    by_cases g : i < 0
    · rw [if_pos g]; repeat' split
      all_goals omega
    · rw [if_neg g, getD4 i _ _ _ _ g]
  rw [e] at h
  simp only [List.map_cons, List.map_nil, List.length_cons, List.length_nil, Nat.zero_add, Nat.reduceAdd] at h
  simp only [M30, h, frz_sl, f4_2, f4_3, qES0, qES1, qES2, env0, List.length_cons, List.length_nil, Nat.reduceAdd, Nat.reduceSub, List.replicate, List.cons_append, List.nil_append, opd, Env.put, Env.at, List.set_cons_zero, List.set_cons_succ, List.getD_cons_zero, List.getD_cons_succ, freezeL, resVs, oneOr, Option.map_some, Option.map_none, List.map_cons, List.map_nil, if_true, if_false, Bool.not_true, Bool.not_false, Bool.false_eq_true, reduceIte, decide_true, decide_false, Int.reduceLT, Int.reduceLE, Int.reduceGT, Int.reduceGE, Int.reduceEq, Int.reduceBEq, Int.reduceBNe, load_ptr, ldV_some, cellAt_cells, List.getElem?_cons_zero, List.getElem?_cons_succ, store_ptr, stO_some, setAt_0, setAt_1, setAt_2, setAt_3, setAt_4, setAt_5, setAt_6, setAt_7, setAt_8, setAt_9, setAt_10, setAt_11, setAt_12, cells_int, cells_bool, cells_str, cells_nils, cells_nilp, cells_ptr, cells_sl, cells_u8, cells_u16, cells_agg, get_upd_is, Option.isSome_some, upd_upd, ev1_nchkV, ev1_faV, nchkV_ptr, faV_ptr, ev1_extV, extV_tup, eqptr_nil, eqptr_ptr, Nat.zero_add, Nat.add_zero, qPL0, qPL1, qPL2, qPL3, qPL4, qPL5, beq_self_eq_true]
theorem silent_val (i : Int) (s : St) : valR (evT 1000 32 [.int .i64 i] (s.pl [])) = some (.int .i64 (silentZ i)) := by
  rw [show (1000 : Nat) = 998 + 1 + 1 from rfl, evT_in rfl tab32]
  obtain ⟨s1, h⟩ := of_ev 998 i [200, 300, 500] (some (s.next, 0, 1)) (s.pl [.tick 1 0])
  have e : (if i < 0 then 0 else [200, 300, 500].getD i.toNat 0) = silentZ i := by
    unfold silentZ
    by_cases g : i < 0
    · rw [if_pos g]; repeat' split
      all_goals omega
    · rw [if_neg g, getD3 i _ _ _ g]
  rw [e] at h
  simp only [List.map_cons, List.map_nil, List.length_cons, List.length_nil, Nat.zero_add, Nat.reduceAdd] at h
  simp only [M32, h, frz_sl, qES0, qES1, qES2, env0, List.length_cons, List.length_nil, Nat.reduceAdd, Nat.reduceSub, List.replicate, List.cons_append, List.nil_append, opd, Env.put, Env.at, List.set_cons_zero, List.set_cons_succ, List.getD_cons_zero, List.getD_cons_succ, freezeL, resVs, oneOr, Option.map_some, Option.map_none, List.map_cons, List.map_nil, if_true, if_false, Bool.not_true, Bool.not_false, Bool.false_eq_true, reduceIte, decide_true, decide_false, Int.reduceLT, Int.reduceLE, Int.reduceGT, Int.reduceGE, Int.reduceEq, Int.reduceBEq, Int.reduceBNe, load_ptr, ldV_some, cellAt_cells, List.getElem?_cons_zero, List.getElem?_cons_succ, store_ptr, stO_some, setAt_0, setAt_1, setAt_2, setAt_3, setAt_4, setAt_5, setAt_6, setAt_7, setAt_8, setAt_9, setAt_10, setAt_11, setAt_12, cells_int, cells_bool, cells_str, cells_nils, cells_nilp, cells_ptr, cells_sl, cells_u8, cells_u16, cells_agg, get_upd_is, Option.isSome_some, upd_upd, ev1_nchkV, ev1_faV, nchkV_ptr, faV_ptr, ev1_extV, extV_tup, eqptr_nil, eqptr_ptr, Nat.zero_add, Nat.add_zero, qPL0, qPL1, qPL2, qPL3, qPL4, qPL5, beq_self_eq_true]
theorem size_val (i : Int) (s : St) : valR (evT 1000 34 [.int .i64 i] (s.pl [])) = some (.int .i64 (sizeZ i)) := by
  rw [show (1000 : Nat) = 998 + 1 + 1 from rfl, evT_in rfl tab34]
  obtain ⟨s1, h⟩ := of_ev 998 i [8, 16, 32, 64] (some (s.next, 0, 1)) (s.pl [.tick 1 0])
  have e : (if i < 0 then 0 else [8, 16, 32, 64].getD i.toNat 0) = sizeZ i := by
    unfold sizeZ
    by_cases g : i < 0
    · rw [if_pos g]; repeat' split
      all_goals omega
    · rw [if_neg g, getD4 i _ _ _ _ g]
  rw [e] at h
  simp only [List.map_cons, List.map_nil, List.length_cons, List.length_nil, Nat.zero_add, Nat.reduceAdd] at h
  simp only [M34, h, frz_sl, f4_2, f4_3, qES0, qES1, qES2, env0, List.length_cons, List.length_nil, Nat.reduceAdd, Nat.reduceSub, List.replicate, List.cons_append, List.nil_append, opd, Env.put, Env.at, List.set_cons_zero, List.set_cons_succ, List.getD_cons_zero, List.getD_cons_succ, freezeL, resVs, oneOr, Option.map_some, Option.map_none, List.map_cons, List.map_nil, if_true, if_false, Bool.not_true, Bool.not_false, Bool.false_eq_true, reduceIte, decide_true, decide_false, Int.reduceLT, Int.reduceLE, Int.reduceGT, Int.reduceGE, Int.reduceEq, Int.reduceBEq, Int.reduceBNe, load_ptr, ldV_some, cellAt_cells, List.getElem?_cons_zero, List.getElem?_cons_succ, store_ptr, stO_some, setAt_0, setAt_1, setAt_2, setAt_3, setAt_4, setAt_5, setAt_6, setAt_7, setAt_8, setAt_9, setAt_10, setAt_11, setAt_12, cells_int, cells_bool, cells_str, cells_nils, cells_nilp, cells_ptr, cells_sl, cells_u8, cells_u16, cells_agg, get_upd_is, Option.isSome_some, upd_upd, ev1_nchkV, ev1_faV, nchkV_ptr, faV_ptr, ev1_extV, extV_tup, eqptr_nil, eqptr_ptr, Nat.zero_add, Nat.add_zero, qPL0, qPL1, qPL2, qPL3, qPL4, qPL5, beq_self_eq_true]
theorem rbaud_val (i : Int) (s : St) : valR (evT 1000 31 [.int .i64 i] (s.pl [])) = some (.int .i64 (baudZ i)) := by
  rw [show (1000 : Nat) = 999 + 1 from rfl, evT_in rfl tab31]
  unfold baudZ
  by_cases h : i < 0
  · have d : decide (i < 0) = true := decide_eq_true h
    simp only [M31, d, qES0, qES1, qES2, env0, List.length_cons, List.length_nil, Nat.reduceAdd, Nat.reduceSub, List.replicate, List.cons_append, List.nil_append, opd, Env.put, Env.at, List.set_cons_zero, List.set_cons_succ, List.getD_cons_zero, List.getD_cons_succ, freezeL, resVs, oneOr, Option.map_some, Option.map_none, List.map_cons, List.map_nil, if_true, if_false, Bool.not_true, Bool.not_false, Bool.false_eq_true, reduceIte, decide_true, decide_false, Int.reduceLT, Int.reduceLE, Int.reduceGT, Int.reduceGE, Int.reduceEq, Int.reduceBEq, Int.reduceBNe, load_ptr, ldV_some, cellAt_cells, List.getElem?_cons_zero, List.getElem?_cons_succ, store_ptr, stO_some, setAt_0, setAt_1, setAt_2, setAt_3, setAt_4, setAt_5, setAt_6, setAt_7, setAt_8, setAt_9, setAt_10, setAt_11, setAt_12, cells_int, cells_bool, cells_str, cells_nils, cells_nilp, cells_ptr, cells_sl, cells_u8, cells_u16, cells_agg, get_upd_is, Option.isSome_some, upd_upd, ev1_nchkV, ev1_faV, nchkV_ptr, faV_ptr, ev1_extV, extV_tup, eqptr_nil, eqptr_ptr, Nat.zero_add, Nat.add_zero, qPL0, qPL1, qPL2, qPL3, qPL4, qPL5, beq_self_eq_true]
    repeat' split
    all_goals first | rfl | omega
  · have d : decide (i < 0) = false := decide_eq_false h
    by_cases g : i > 3
    · have d2 : decide (i > 3) = true := decide_eq_true g
      simp only [M31, d, d2, qES0, qES1, qES2, env0, List.length_cons, List.length_nil, Nat.reduceAdd, Nat.reduceSub, List.replicate, List.cons_append, List.nil_append, opd, Env.put, Env.at, List.set_cons_zero, List.set_cons_succ, List.getD_cons_zero, List.getD_cons_succ, freezeL, resVs, oneOr, Option.map_some, Option.map_none, List.map_cons, List.map_nil, if_true, if_false, Bool.not_true, Bool.not_false, Bool.false_eq_true, reduceIte, decide_true, decide_false, Int.reduceLT, Int.reduceLE, Int.reduceGT, Int.reduceGE, Int.reduceEq, Int.reduceBEq, Int.reduceBNe, load_ptr, ldV_some, cellAt_cells, List.getElem?_cons_zero, List.getElem?_cons_succ, store_ptr, stO_some, setAt_0, setAt_1, setAt_2, setAt_3, setAt_4, setAt_5, setAt_6, setAt_7, setAt_8, setAt_9, setAt_10, setAt_11, setAt_12, cells_int, cells_bool, cells_str, cells_nils, cells_nilp, cells_ptr, cells_sl, cells_u8, cells_u16, cells_agg, get_upd_is, Option.isSome_some, upd_upd, ev1_nchkV, ev1_faV, nchkV_ptr, faV_ptr, ev1_extV, extV_tup, eqptr_nil, eqptr_ptr, Nat.zero_add, Nat.add_zero, qPL0, qPL1, qPL2, qPL3, qPL4, qPL5, beq_self_eq_true]
      repeat' split
      all_goals first | rfl | omega
    · have d2 : decide (i > 3) = false := decide_eq_false g
      have : i = 0 ∨ i = 1 ∨ i = 2 ∨ i = 3 := by omega
      rcases this with rfl | rfl | rfl | rfl <;> rfl
theorem rsilent_val (i : Int) (s : St) : valR (evT 1000 33 [.int .i64 i] (s.pl [])) = some (.int .i64 (silentZ i)) := by
  rw [show (1000 : Nat) = 999 + 1 from rfl, evT_in rfl tab33]
  unfold silentZ
  by_cases h : i < 0
  · have d : decide (i < 0) = true := decide_eq_true h
    simp only [M33, d, qES0, qES1, qES2, env0, List.length_cons, List.length_nil, Nat.reduceAdd, Nat.reduceSub, List.replicate, List.cons_append, List.nil_append, opd, Env.put, Env.at, List.set_cons_zero, List.set_cons_succ, List.getD_cons_zero, List.getD_cons_succ, freezeL, resVs, oneOr, Option.map_some, Option.map_none, List.map_cons, List.map_nil, if_true, if_false, Bool.not_true, Bool.not_false, Bool.false_eq_true, reduceIte, decide_true, decide_false, Int.reduceLT, Int.reduceLE, Int.reduceGT, Int.reduceGE, Int.reduceEq, Int.reduceBEq, Int.reduceBNe, load_ptr, ldV_some, cellAt_cells, List.getElem?_cons_zero, List.getElem?_cons_succ, store_ptr, stO_some, setAt_0, setAt_1, setAt_2, setAt_3, setAt_4, setAt_5, setAt_6, setAt_7, setAt_8, setAt_9, setAt_10, setAt_11, setAt_12, cells_int, cells_bool, cells_str, cells_nils, cells_nilp, cells_ptr, cells_sl, cells_u8, cells_u16, cells_agg, get_upd_is, Option.isSome_some, upd_upd, ev1_nchkV, ev1_faV, nchkV_ptr, faV_ptr, ev1_extV, extV_tup, eqptr_nil, eqptr_ptr, Nat.zero_add, Nat.add_zero, qPL0, qPL1, qPL2, qPL3, qPL4, qPL5, beq_self_eq_true]
    repeat' split
    all_goals first | rfl | omega
  · have d : decide (i < 0) = false := decide_eq_false h
    by_cases g : i > 2
    · have d2 : decide (i > 2) = true := decide_eq_true g
      simp only [M33, d, d2, qES0, qES1, qES2, env0, List.length_cons, List.length_nil, Nat.reduceAdd, Nat.reduceSub, List.replicate, List.cons_append, List.nil_append, opd, Env.put, Env.at, List.set_cons_zero, List.set_cons_succ, List.getD_cons_zero, List.getD_cons_succ, freezeL, resVs, oneOr, Option.map_some, Option.map_none, List.map_cons, List.map_nil, if_true, if_false, Bool.not_true, Bool.not_false, Bool.false_eq_true, reduceIte, decide_true, decide_false, Int.reduceLT, Int.reduceLE, Int.reduceGT, Int.reduceGE, Int.reduceEq, Int.reduceBEq, Int.reduceBNe, load_ptr, ldV_some, cellAt_cells, List.getElem?_cons_zero, List.getElem?_cons_succ, store_ptr, stO_some, setAt_0, setAt_1, setAt_2, setAt_3, setAt_4, setAt_5, setAt_6, setAt_7, setAt_8, setAt_9, setAt_10, setAt_11, setAt_12, cells_int, cells_bool, cells_str, cells_nils, cells_nilp, cells_ptr, cells_sl, cells_u8, cells_u16, cells_agg, get_upd_is, Option.isSome_some, upd_upd, ev1_nchkV, ev1_faV, nchkV_ptr, faV_ptr, ev1_extV, extV_tup, eqptr_nil, eqptr_ptr, Nat.zero_add, Nat.add_zero, qPL0, qPL1, qPL2, qPL3, qPL4, qPL5, beq_self_eq_true]
      repeat' split
      all_goals first | rfl | omega
    · have d2 : decide (i > 2) = false := decide_eq_false g
      have : i = 0 ∨ i = 1 ∨ i = 2 := by omega
      rcases this with rfl | rfl | rfl <;> rfl
theorem rsize_val (i : Int) (s : St) : valR (evT 1000 35 [.int .i64 i] (s.pl [])) = some (.int .i64 (sizeZ i)) := by
  rw [show (1000 : Nat) = 999 + 1 from rfl, evT_in rfl tab35]
  unfold sizeZ
  by_cases h : i < 0
  · have d : decide (i < 0) = true := decide_eq_true h
    simp only [M35, d, qES0, qES1, qES2, env0, List.length_cons, List.length_nil, Nat.reduceAdd, Nat.reduceSub, List.replicate, List.cons_append, List.nil_append, opd, Env.put, Env.at, List.set_cons_zero, List.set_cons_succ, List.getD_cons_zero, List.getD_cons_succ, freezeL, resVs, oneOr, Option.map_some, Option.map_none, List.map_cons, List.map_nil, if_true, if_false, Bool.not_true, Bool.not_false, Bool.false_eq_true, reduceIte, decide_true, decide_false, Int.reduceLT, Int.reduceLE, Int.reduceGT, Int.reduceGE, Int.reduceEq, Int.reduceBEq, Int.reduceBNe, load_ptr, ldV_some, cellAt_cells, List.getElem?_cons_zero, List.getElem?_cons_succ, store_ptr, stO_some, setAt_0, setAt_1, setAt_2, setAt_3, setAt_4, setAt_5, setAt_6, setAt_7, setAt_8, setAt_9, setAt_10, setAt_11, setAt_12, cells_int, cells_bool, cells_str, cells_nils, cells_nilp, cells_ptr, cells_sl, cells_u8, cells_u16, cells_agg, get_upd_is, Option.isSome_some, upd_upd, ev1_nchkV, ev1_faV, nchkV_ptr, faV_ptr, ev1_extV, extV_tup, eqptr_nil, eqptr_ptr, Nat.zero_add, Nat.add_zero, qPL0, qPL1, qPL2, qPL3, qPL4, qPL5, beq_self_eq_true]
    repeat' split
    all_goals first | rfl | omega
  · have d : decide (i < 0) = false := decide_eq_false h
    by_cases g : i > 3
    · have d2 : decide (i > 3) = true := decide_eq_true g
      simp only [M35, d, d2, qES0, qES1, qES2, env0, List.length_cons, List.length_nil, Nat.reduceAdd, Nat.reduceSub, List.replicate, List.cons_append, List.nil_append, opd, Env.put, Env.at, List.set_cons_zero, List.set_cons_succ, List.getD_cons_zero, List.getD_cons_succ, freezeL, resVs, oneOr, Option.map_some, Option.map_none, List.map_cons, List.map_nil, if_true, if_false, Bool.not_true, Bool.not_false, Bool.false_eq_true, reduceIte, decide_true, decide_false, Int.reduceLT, Int.reduceLE, Int.reduceGT, Int.reduceGE, Int.reduceEq, Int.reduceBEq, Int.reduceBNe, load_ptr, ldV_some, cellAt_cells, List.getElem?_cons_zero, List.getElem?_cons_succ, store_ptr, stO_some, setAt_0, setAt_1, setAt_2, setAt_3, setAt_4, setAt_5, setAt_6, setAt_7, setAt_8, setAt_9, setAt_10, setAt_11, setAt_12, cells_int, cells_bool, cells_str, cells_nils, cells_nilp, cells_ptr, cells_sl, cells_u8, cells_u16, cells_agg, get_upd_is, Option.isSome_some, upd_upd, ev1_nchkV, ev1_faV, nchkV_ptr, faV_ptr, ev1_extV, extV_tup, eqptr_nil, eqptr_ptr, Nat.zero_add, Nat.add_zero, qPL0, qPL1, qPL2, qPL3, qPL4, qPL5, beq_self_eq_true]
      repeat' split
      all_goals first | rfl | omega
    · have d2 : decide (i > 3) = false := decide_eq_false g
      have : i = 0 ∨ i = 1 ∨ i = 2 ∨ i = 3 := by omega
      rcases this with rfl | rfl | rfl | rfl <;> rfl
theorem ticks_ev (k : Nat) (bytes baud : Int) (hb : IntKind.i64.has bytes) (s : St) : evT (k + 1) 36 [.int .i64 bytes, .int .i64 baud] s = some (.int .i64 (ticksZ bytes baud), s) := by
  rw [evT_in rfl tab36]
  unfold ticksZ
  by_cases h : bytes < 1
  · rw [if_pos (.inl h)]
    have d : decide (bytes < 1) = true := decide_eq_true h
    simp only [M36, d, qES0, qES1, qES2, env0, List.length_cons, List.length_nil, Nat.reduceAdd, Nat.reduceSub, List.replicate, List.cons_append, List.nil_append, opd, Env.put, Env.at, List.set_cons_zero, List.set_cons_succ, List.getD_cons_zero, List.getD_cons_succ, freezeL, resVs, oneOr, Option.map_some, Option.map_none, List.map_cons, List.map_nil, if_true, if_false, Bool.not_true, Bool.not_false, Bool.false_eq_true, reduceIte, decide_true, decide_false, Int.reduceLT, Int.reduceLE, Int.reduceGT, Int.reduceGE, Int.reduceEq, Int.reduceBEq, Int.reduceBNe, load_ptr, ldV_some, cellAt_cells, List.getElem?_cons_zero, List.getElem?_cons_succ, store_ptr, stO_some, setAt_0, setAt_1, setAt_2, setAt_3, setAt_4, setAt_5, setAt_6, setAt_7, setAt_8, setAt_9, setAt_10, setAt_11, setAt_12, cells_int, cells_bool, cells_str, cells_nils, cells_nilp, cells_ptr, cells_sl, cells_u8, cells_u16, cells_agg, get_upd_is, Option.isSome_some, upd_upd, ev1_nchkV, ev1_faV, nchkV_ptr, faV_ptr, ev1_extV, extV_tup, eqptr_nil, eqptr_ptr, Nat.zero_add, Nat.add_zero, qPL0, qPL1, qPL2, qPL3, qPL4, qPL5, beq_self_eq_true]
  · have d : decide (bytes < 1) = false := decide_eq_false h
    by_cases g : baud < 1
    · rw [if_pos (.inr g)]
      have d2 : decide (baud < 1) = true := decide_eq_true g
      simp only [M36, d, d2, qES0, qES1, qES2, env0, List.length_cons, List.length_nil, Nat.reduceAdd, Nat.reduceSub, List.replicate, List.cons_append, List.nil_append, opd, Env.put, Env.at, List.set_cons_zero, List.set_cons_succ, List.getD_cons_zero, List.getD_cons_succ, freezeL, resVs, oneOr, Option.map_some, Option.map_none, List.map_cons, List.map_nil, if_true, if_false, Bool.not_true, Bool.not_false, Bool.false_eq_true, reduceIte, decide_true, decide_false, Int.reduceLT, Int.reduceLE, Int.reduceGT, Int.reduceGE, Int.reduceEq, Int.reduceBEq, Int.reduceBNe, load_ptr, ldV_some, cellAt_cells, List.getElem?_cons_zero, List.getElem?_cons_succ, store_ptr, stO_some, setAt_0, setAt_1, setAt_2, setAt_3, setAt_4, setAt_5, setAt_6, setAt_7, setAt_8, setAt_9, setAt_10, setAt_11, setAt_12, cells_int, cells_bool, cells_str, cells_nils, cells_nilp, cells_ptr, cells_sl, cells_u8, cells_u16, cells_agg, get_upd_is, Option.isSome_some, upd_upd, ev1_nchkV, ev1_faV, nchkV_ptr, faV_ptr, ev1_extV, extV_tup, eqptr_nil, eqptr_ptr, Nat.zero_add, Nat.add_zero, qPL0, qPL1, qPL2, qPL3, qPL4, qPL5, beq_self_eq_true]
    · rw [if_neg (by omega)]
      have d2 : decide (baud < 1) = false := decide_eq_false g
      have hb' : bytes ≤ 9223372036854775807 := hb.2
      have w1 : IntKind.i64.wrap (bytes - 1) = bytes - 1 := by rw [IntKind.wrap_i64]; omega
      have q0 : 0 ≤ (bytes - 1) / baud := Int.ediv_nonneg (by omega) (by omega)
      have q1 : (bytes - 1) / baud ≤ bytes - 1 := Int.ediv_le_self _ (by omega)
      have w2 : IntKind.i64.wrap ((bytes - 1) / baud) = (bytes - 1) / baud := by rw [IntKind.wrap_i64]; omega
      have w3 : IntKind.i64.wrap ((bytes - 1) / baud + 1) = (bytes - 1) / baud + 1 := by rw [IntKind.wrap_i64]; omega
      have q : binV .quo (.int .i64 (bytes - 1)) (.int .i64 baud) = some (.int .i64 ((bytes - 1) / baud)) := by
        show (if baud = 0 then none else some (AV.int .i64 (IntKind.i64.wrap ((bytes - 1).tdiv baud)))) = _
        rw [if_neg (by omega), Int.tdiv_eq_ediv_of_nonneg (by omega), w2]
      simp only [M36, d, d2, w1, q, w3, qES0, qES1, qES2, env0, List.length_cons, List.length_nil, Nat.reduceAdd, Nat.reduceSub, List.replicate, List.cons_append, List.nil_append, opd, Env.put, Env.at, List.set_cons_zero, List.set_cons_succ, List.getD_cons_zero, List.getD_cons_succ, freezeL, resVs, oneOr, Option.map_some, Option.map_none, List.map_cons, List.map_nil, if_true, if_false, Bool.not_true, Bool.not_false, Bool.false_eq_true, reduceIte, decide_true, decide_false, Int.reduceLT, Int.reduceLE, Int.reduceGT, Int.reduceGE, Int.reduceEq, Int.reduceBEq, Int.reduceBNe, load_ptr, ldV_some, cellAt_cells, List.getElem?_cons_zero, List.getElem?_cons_succ, store_ptr, stO_some, setAt_0, setAt_1, setAt_2, setAt_3, setAt_4, setAt_5, setAt_6, setAt_7, setAt_8, setAt_9, setAt_10, setAt_11, setAt_12, cells_int, cells_bool, cells_str, cells_nils, cells_nilp, cells_ptr, cells_sl, cells_u8, cells_u16, cells_agg, get_upd_is, Option.isSome_some, upd_upd, ev1_nchkV, ev1_faV, nchkV_ptr, faV_ptr, ev1_extV, extV_tup, eqptr_nil, eqptr_ptr, Nat.zero_add, Nat.add_zero, qPL0, qPL1, qPL2, qPL3, qPL4, qPL5, beq_self_eq_true]
theorem rticks_ev (k : Nat) (bytes baud : Int) (hb : IntKind.i64.has bytes) (s : St) : evT (k + 1) 37 [.int .i64 bytes, .int .i64 baud] s = some (.int .i64 (ticksZ bytes baud), s) := by
  rw [evT_in rfl tab37]
  unfold ticksZ
  by_cases h : bytes < 1
  · rw [if_pos (.inl h)]
    have d : decide (bytes < 1) = true := decide_eq_true h
    simp only [M37, d, qES0, qES1, qES2, env0, List.length_cons, List.length_nil, Nat.reduceAdd, Nat.reduceSub, List.replicate, List.cons_append, List.nil_append, opd, Env.put, Env.at, List.set_cons_zero, List.set_cons_succ, List.getD_cons_zero, List.getD_cons_succ, freezeL, resVs, oneOr, Option.map_some, Option.map_none, List.map_cons, List.map_nil, if_true, if_false, Bool.not_true, Bool.not_false, Bool.false_eq_true, reduceIte, decide_true, decide_false, Int.reduceLT, Int.reduceLE, Int.reduceGT, Int.reduceGE, Int.reduceEq, Int.reduceBEq, Int.reduceBNe, load_ptr, ldV_some, cellAt_cells, List.getElem?_cons_zero, List.getElem?_cons_succ, store_ptr, stO_some, setAt_0, setAt_1, setAt_2, setAt_3, setAt_4, setAt_5, setAt_6, setAt_7, setAt_8, setAt_9, setAt_10, setAt_11, setAt_12, cells_int, cells_bool, cells_str, cells_nils, cells_nilp, cells_ptr, cells_sl, cells_u8, cells_u16, cells_agg, get_upd_is, Option.isSome_some, upd_upd, ev1_nchkV, ev1_faV, nchkV_ptr, faV_ptr, ev1_extV, extV_tup, eqptr_nil, eqptr_ptr, Nat.zero_add, Nat.add_zero, qPL0, qPL1, qPL2, qPL3, qPL4, qPL5, beq_self_eq_true]
  · have d : decide (bytes < 1) = false := decide_eq_false h
    by_cases g : baud < 1
    · rw [if_pos (.inr g)]
      have d2 : decide (baud < 1) = true := decide_eq_true g
      simp only [M37, d, d2, qES0, qES1, qES2, env0, List.length_cons, List.length_nil, Nat.reduceAdd, Nat.reduceSub, List.replicate, List.cons_append, List.nil_append, opd, Env.put, Env.at, List.set_cons_zero, List.set_cons_succ, List.getD_cons_zero, List.getD_cons_succ, freezeL, resVs, oneOr, Option.map_some, Option.map_none, List.map_cons, List.map_nil, if_true, if_false, Bool.not_true, Bool.not_false, Bool.false_eq_true, reduceIte, decide_true, decide_false, Int.reduceLT, Int.reduceLE, Int.reduceGT, Int.reduceGE, Int.reduceEq, Int.reduceBEq, Int.reduceBNe, load_ptr, ldV_some, cellAt_cells, List.getElem?_cons_zero, List.getElem?_cons_succ, store_ptr, stO_some, setAt_0, setAt_1, setAt_2, setAt_3, setAt_4, setAt_5, setAt_6, setAt_7, setAt_8, setAt_9, setAt_10, setAt_11, setAt_12, cells_int, cells_bool, cells_str, cells_nils, cells_nilp, cells_ptr, cells_sl, cells_u8, cells_u16, cells_agg, get_upd_is, Option.isSome_some, upd_upd, ev1_nchkV, ev1_faV, nchkV_ptr, faV_ptr, ev1_extV, extV_tup, eqptr_nil, eqptr_ptr, Nat.zero_add, Nat.add_zero, qPL0, qPL1, qPL2, qPL3, qPL4, qPL5, beq_self_eq_true]
    · rw [if_neg (by omega)]
      have d2 : decide (baud < 1) = false := decide_eq_false g
      have hb' : bytes ≤ 9223372036854775807 := hb.2
      have q0 : 0 ≤ (bytes - 1) / baud := Int.ediv_nonneg (by omega) (by omega)
      have q1 : (bytes - 1) / baud ≤ bytes - 1 := Int.ediv_le_self _ (by omega)
      have p0 : 0 ≤ bytes / baud := Int.ediv_nonneg (by omega) (by omega)
      have p1 : bytes / baud ≤ bytes := Int.ediv_le_self _ (by omega)
      have w2 : IntKind.i64.wrap (bytes / baud) = bytes / baud := by rw [IntKind.wrap_i64]; omega
      have q : binV .quo (.int .i64 bytes) (.int .i64 baud) = some (.int .i64 (bytes / baud)) := by
        show (if baud = 0 then none else some (AV.int .i64 (IntKind.i64.wrap (bytes.tdiv baud)))) = _
        rw [if_neg (by omega), Int.tdiv_eq_ediv_of_nonneg (by omega), w2]
      have r : binV .rem (.int .i64 bytes) (.int .i64 baud) = some (.int .i64 (bytes % baud)) := by
        show (if baud = 0 then none else some (AV.int .i64 (bytes.tmod baud))) = _
        rw [if_neg (by omega), Int.tmod_eq_emod_of_nonneg (by omega)]
      have e1 := Int.mul_ediv_add_emod bytes baud
      have e2 := Int.emod_nonneg bytes (show baud ≠ 0 by omega)
      have e3 := Int.emod_lt_of_pos bytes (show 0 < baud by omega)
      by_cases z : bytes % baud = 0
      · have nz : (bytes % baud != 0) = false := by simp [z]
        have e : (bytes - 1) / baud + 1 = bytes / baud := by
          have : (bytes - 1) / baud = bytes / baud - 1 := by
            refine (Int.ediv_emod_unique (r := baud - 1) (show 0 < baud by omega)).2 ⟨?_, by omega, by omega⟩ |>.1
            rw [Int.mul_sub]; omega
          omega
        rw [e]
        simp only [M37, d, d2, q, r, nz, qES0, qES1, qES2, env0, List.length_cons, List.length_nil, Nat.reduceAdd, Nat.reduceSub, List.replicate, List.cons_append, List.nil_append, opd, Env.put, Env.at, List.set_cons_zero, List.set_cons_succ, List.getD_cons_zero, List.getD_cons_succ, freezeL, resVs, oneOr, Option.map_some, Option.map_none, List.map_cons, List.map_nil, if_true, if_false, Bool.not_true, Bool.not_false, Bool.false_eq_true, reduceIte, decide_true, decide_false, Int.reduceLT, Int.reduceLE, Int.reduceGT, Int.reduceGE, Int.reduceEq, Int.reduceBEq, Int.reduceBNe, load_ptr, ldV_some, cellAt_cells, List.getElem?_cons_zero, List.getElem?_cons_succ, store_ptr, stO_some, setAt_0, setAt_1, setAt_2, setAt_3, setAt_4, setAt_5, setAt_6, setAt_7, setAt_8, setAt_9, setAt_10, setAt_11, setAt_12, cells_int, cells_bool, cells_str, cells_nils, cells_nilp, cells_ptr, cells_sl, cells_u8, cells_u16, cells_agg, get_upd_is, Option.isSome_some, upd_upd, ev1_nchkV, ev1_faV, nchkV_ptr, faV_ptr, ev1_extV, extV_tup, eqptr_nil, eqptr_ptr, Nat.zero_add, Nat.add_zero, qPL0, qPL1, qPL2, qPL3, qPL4, qPL5, beq_self_eq_true]
      · have nz : (bytes % baud != 0) = true := by simp [z]
        have e : (bytes - 1) / baud = bytes / baud := by
          refine (Int.ediv_emod_unique (r := bytes % baud - 1) (show 0 < baud by omega)).2 ⟨by omega, by omega, by omega⟩ |>.1
        rw [e] at q0 q1 ⊢
        have w3 : IntKind.i64.wrap (bytes / baud + 1) = bytes / baud + 1 := by rw [IntKind.wrap_i64]; omega
        simp only [M37, d, d2, q, r, nz, w3, qES0, qES1, qES2, env0, List.length_cons, List.length_nil, Nat.reduceAdd, Nat.reduceSub, List.replicate, List.cons_append, List.nil_append, opd, Env.put, Env.at, List.set_cons_zero, List.set_cons_succ, List.getD_cons_zero, List.getD_cons_succ, freezeL, resVs, oneOr, Option.map_some, Option.map_none, List.map_cons, List.map_nil, if_true, if_false, Bool.not_true, Bool.not_false, Bool.false_eq_true, reduceIte, decide_true, decide_false, Int.reduceLT, Int.reduceLE, Int.reduceGT, Int.reduceGE, Int.reduceEq, Int.reduceBEq, Int.reduceBNe, load_ptr, ldV_some, cellAt_cells, List.getElem?_cons_zero, List.getElem?_cons_succ, store_ptr, stO_some, setAt_0, setAt_1, setAt_2, setAt_3, setAt_4, setAt_5, setAt_6, setAt_7, setAt_8, setAt_9, setAt_10, setAt_11, setAt_12, cells_int, cells_bool, cells_str, cells_nils, cells_nilp, cells_ptr, cells_sl, cells_u8, cells_u16, cells_agg, get_upd_is, Option.isSome_some, upd_upd, ev1_nchkV, ev1_faV, nchkV_ptr, faV_ptr, ev1_extV, extV_tup, eqptr_nil, eqptr_ptr, Nat.zero_add, Nat.add_zero, qPL0, qPL1, qPL2, qPL3, qPL4, qPL5, beq_self_eq_true]
end Go.Proofs.YtbeimfhodgmjhaaDoor
/- qos.May, meet.Frame and the document's; bits one by one. No conditions. -/
set_option linter.unusedSimpArgs false
set_option linter.unusedVariables false
set_option maxRecDepth 100000
set_option maxHeartbeats 4000000
namespace Go.Proofs.YtbeimfhodgmjhaaDoor
open Go Go.Ab
def mayP (b s w z t : Int) : Prop := 1 ≤ b ∧ b ≤ 15 ∧ b % 2 = 1 ∧ 1 ≤ s ∧ s ≤ 7 ∧ s % 2 = 1 ∧ 1 ≤ w ∧ w ≤ 127 ∧ 1 ≤ z ∧ z ≤ 15 ∧ 1 ≤ t ∧ t ≤ 7
instance (b s w z t : Int) : Decidable (mayP b s w z t) := inferInstanceAs (Decidable (_ ∧ _))
def ofC (b s w z t : Int) : List AV := [.int .i64 b, .int .i64 s, .int .i64 w, .int .i64 z, .int .i64 t]
theorem in62_ev (k : Nat) (n m : Int) (s : St) : evT (k + 1) 62 [.int .i64 n, .int .i64 m] s = some (.bool (decide (n ≥ 1 ∧ n ≤ m)), s) := by
  rw [evT_in rfl tab62]
  by_cases h : n ≥ 1
  · have d : decide (n ≥ 1) = true := decide_eq_true h
    simp only [M62, d, qES0, qES1, qES2, env0, List.length_cons, List.length_nil, Nat.reduceAdd, Nat.reduceSub, List.replicate, List.cons_append, List.nil_append, opd, Env.put, Env.at, List.set_cons_zero, List.set_cons_succ, List.getD_cons_zero, List.getD_cons_succ, freezeL, resVs, oneOr, Option.map_some, Option.map_none, List.map_cons, List.map_nil, if_true, if_false, Bool.not_true, Bool.not_false, Bool.false_eq_true, reduceIte, decide_true, decide_false, Int.reduceLT, Int.reduceLE, Int.reduceGT, Int.reduceGE, Int.reduceEq, Int.reduceBEq, Int.reduceBNe, load_ptr, ldV_some, cellAt_cells, List.getElem?_cons_zero, List.getElem?_cons_succ, store_ptr, stO_some, setAt_0, setAt_1, setAt_2, setAt_3, setAt_4, setAt_5, setAt_6, setAt_7, setAt_8, setAt_9, setAt_10, setAt_11, setAt_12, cells_int, cells_bool, cells_str, cells_nils, cells_nilp, cells_ptr, cells_sl, cells_u8, cells_u16, cells_agg, get_upd_is, Option.isSome_some, upd_upd, ev1_nchkV, ev1_faV, nchkV_ptr, faV_ptr, ev1_extV, extV_tup, eqptr_nil, eqptr_ptr, Nat.zero_add, Nat.add_zero, qPL0, qPL1, qPL2, qPL3, qPL4, qPL5, beq_self_eq_true]
    simp [h]
  · have d : decide (n ≥ 1) = false := decide_eq_false h
    simp only [M62, d, qES0, qES1, qES2, env0, List.length_cons, List.length_nil, Nat.reduceAdd, Nat.reduceSub, List.replicate, List.cons_append, List.nil_append, opd, Env.put, Env.at, List.set_cons_zero, List.set_cons_succ, List.getD_cons_zero, List.getD_cons_succ, freezeL, resVs, oneOr, Option.map_some, Option.map_none, List.map_cons, List.map_nil, if_true, if_false, Bool.not_true, Bool.not_false, Bool.false_eq_true, reduceIte, decide_true, decide_false, Int.reduceLT, Int.reduceLE, Int.reduceGT, Int.reduceGE, Int.reduceEq, Int.reduceBEq, Int.reduceBNe, load_ptr, ldV_some, cellAt_cells, List.getElem?_cons_zero, List.getElem?_cons_succ, store_ptr, stO_some, setAt_0, setAt_1, setAt_2, setAt_3, setAt_4, setAt_5, setAt_6, setAt_7, setAt_8, setAt_9, setAt_10, setAt_11, setAt_12, cells_int, cells_bool, cells_str, cells_nils, cells_nilp, cells_ptr, cells_sl, cells_u8, cells_u16, cells_agg, get_upd_is, Option.isSome_some, upd_upd, ev1_nchkV, ev1_faV, nchkV_ptr, faV_ptr, ev1_extV, extV_tup, eqptr_nil, eqptr_ptr, Nat.zero_add, Nat.add_zero, qPL0, qPL1, qPL2, qPL3, qPL4, qPL5, beq_self_eq_true]
    simp [h]
theorem may_val (k : Nat) (b s w z t : Int) (S : St) : valR (evT (k + 2) 25 [.agg (ofC b s w z t)] (S.pl [])) = some (.bool (decide (mayP b s w z t))) := by
  rw [show k + 2 = (k + 1) + 1 from rfl, evT_in rfl tab25]
  have h62 := fun n m s => in62_ev k n m s
  simp only [ofC, M25, h62, and_1, qES0, qES1, qES2, env0, List.length_cons, List.length_nil, Nat.reduceAdd, Nat.reduceSub, List.replicate, List.cons_append, List.nil_append, opd, Env.put, Env.at, List.set_cons_zero, List.set_cons_succ, List.getD_cons_zero, List.getD_cons_succ, freezeL, resVs, oneOr, Option.map_some, Option.map_none, List.map_cons, List.map_nil, if_true, if_false, Bool.not_true, Bool.not_false, Bool.false_eq_true, reduceIte, decide_true, decide_false, Int.reduceLT, Int.reduceLE, Int.reduceGT, Int.reduceGE, Int.reduceEq, Int.reduceBEq, Int.reduceBNe, load_ptr, ldV_some, cellAt_cells, List.getElem?_cons_zero, List.getElem?_cons_succ, store_ptr, stO_some, setAt_0, setAt_1, setAt_2, setAt_3, setAt_4, setAt_5, setAt_6, setAt_7, setAt_8, setAt_9, setAt_10, setAt_11, setAt_12, cells_int, cells_bool, cells_str, cells_nils, cells_nilp, cells_ptr, cells_sl, cells_u8, cells_u16, cells_agg, get_upd_is, Option.isSome_some, upd_upd, ev1_nchkV, ev1_faV, nchkV_ptr, faV_ptr, ev1_extV, extV_tup, eqptr_nil, eqptr_ptr, Nat.zero_add, Nat.add_zero, qPL0, qPL1, qPL2, qPL3, qPL4, qPL5, beq_self_eq_true]
  repeat' split
  all_goals first
    | exact congrArg (fun x => some (AV.bool x)) (decide_eq_decide.2 (by unfold mayP; omega))
    | exact congrArg (fun x => some (AV.bool x)) (decide_eq_false (by unfold mayP; omega)).symm
theorem tmod2 (n : Int) (h : 1 ≤ n) : n.tmod 2 = n % 2 := Int.tmod_eq_emod_of_nonneg (by omega)
theorem rmay_val (k : Nat) (b s w z t : Int) (S : St) : valR (evT (k + 1) 58 [.agg (ofC b s w z t)] (S.pl [])) = some (.bool (decide (mayP b s w z t))) := by
  rw [evT_in rfl tab58]
  have r1 := i64_rem b 2 (by omega)
  have r2 := i64_rem s 2 (by omega)
  simp only [ofC, M58, r1, r2, qES0, qES1, qES2, env0, List.length_cons, List.length_nil, Nat.reduceAdd, Nat.reduceSub, List.replicate, List.cons_append, List.nil_append, opd, Env.put, Env.at, List.set_cons_zero, List.set_cons_succ, List.getD_cons_zero, List.getD_cons_succ, freezeL, resVs, oneOr, Option.map_some, Option.map_none, List.map_cons, List.map_nil, if_true, if_false, Bool.not_true, Bool.not_false, Bool.false_eq_true, reduceIte, decide_true, decide_false, Int.reduceLT, Int.reduceLE, Int.reduceGT, Int.reduceGE, Int.reduceEq, Int.reduceBEq, Int.reduceBNe, load_ptr, ldV_some, cellAt_cells, List.getElem?_cons_zero, List.getElem?_cons_succ, store_ptr, stO_some, setAt_0, setAt_1, setAt_2, setAt_3, setAt_4, setAt_5, setAt_6, setAt_7, setAt_8, setAt_9, setAt_10, setAt_11, setAt_12, cells_int, cells_bool, cells_str, cells_nils, cells_nilp, cells_ptr, cells_sl, cells_u8, cells_u16, cells_agg, get_upd_is, Option.isSome_some, upd_upd, ev1_nchkV, ev1_faV, nchkV_ptr, faV_ptr, ev1_extV, extV_tup, eqptr_nil, eqptr_ptr, Nat.zero_add, Nat.add_zero, qPL0, qPL1, qPL2, qPL3, qPL4, qPL5, beq_self_eq_true]
  by_cases hb : 1 ≤ b
  · by_cases hs : 1 ≤ s
    · rw [tmod2 b hb, tmod2 s hs]
      repeat' split
      all_goals first
        | exact congrArg (fun x => some (AV.bool x)) (decide_eq_decide.2 (by unfold mayP; omega))
        | exact congrArg (fun x => some (AV.bool x)) (decide_eq_false (by unfold mayP; omega)).symm
    · have hm : decide (mayP b s w z t) = false := decide_eq_false (by unfold mayP; omega)
      rw [hm]
      repeat' split
      all_goals first | rfl | omega
  · have hm : decide (mayP b s w z t) = false := decide_eq_false (by unfold mayP; omega)
    rw [hm]
    repeat' split
    all_goals first | rfl | omega
theorem i64_mul (a b : Int) : binV .mul (.int .i64 a) (.int .i64 b) = some (.int .i64 (IntKind.i64.wrap (a * b))) := (id rfl)
theorem frame_ev (k : Nat) (size baud : Int) (h0 : 0 ≤ size) (h1 : size ≤ 1000000) (s : St) : evT (k + 2) 44 [.int .i64 size, .int .i64 baud] s = some (.int .i64 (ticksZ (2 * (size + 5) + 2) baud), s) := by
  rw [show k + 2 = (k + 1) + 1 from rfl, evT_in rfl tab44]
  have w1 : IntKind.i64.wrap (size + 5) = size + 5 := wrapI _ (by omega) (by omega)
  have w2 : IntKind.i64.wrap (2 * (size + 5)) = 2 * (size + 5) := wrapI _ (by omega) (by omega)
  have w3 : IntKind.i64.wrap (2 * (size + 5) + 2) = 2 * (size + 5) + 2 := wrapI _ (by omega) (by omega)
  have h := ticks_ev k (2 * (size + 5) + 2) baud ⟨by simp [IntKind.min, IntKind.bits, IntKind.signed]; omega, by simp [IntKind.max, IntKind.bits, IntKind.signed]; omega⟩
  simp only [M44, w1, w2, w3, h, i64_mul, qES0, qES1, qES2, env0, List.length_cons, List.length_nil, Nat.reduceAdd, Nat.reduceSub, List.replicate, List.cons_append, List.nil_append, opd, Env.put, Env.at, List.set_cons_zero, List.set_cons_succ, List.getD_cons_zero, List.getD_cons_succ, freezeL, resVs, oneOr, Option.map_some, Option.map_none, List.map_cons, List.map_nil, if_true, if_false, Bool.not_true, Bool.not_false, Bool.false_eq_true, reduceIte, decide_true, decide_false, Int.reduceLT, Int.reduceLE, Int.reduceGT, Int.reduceGE, Int.reduceEq, Int.reduceBEq, Int.reduceBNe, load_ptr, ldV_some, cellAt_cells, List.getElem?_cons_zero, List.getElem?_cons_succ, store_ptr, stO_some, setAt_0, setAt_1, setAt_2, setAt_3, setAt_4, setAt_5, setAt_6, setAt_7, setAt_8, setAt_9, setAt_10, setAt_11, setAt_12, cells_int, cells_bool, cells_str, cells_nils, cells_nilp, cells_ptr, cells_sl, cells_u8, cells_u16, cells_agg, get_upd_is, Option.isSome_some, upd_upd, ev1_nchkV, ev1_faV, nchkV_ptr, faV_ptr, ev1_extV, extV_tup, eqptr_nil, eqptr_ptr, Nat.zero_add, Nat.add_zero, qPL0, qPL1, qPL2, qPL3, qPL4, qPL5, beq_self_eq_true]
theorem rframe_ev (k : Nat) (size baud : Int) (h0 : 0 ≤ size) (h1 : size ≤ 1000000) (s : St) : evT (k + 2) 45 [.int .i64 size, .int .i64 baud] s = some (.int .i64 (ticksZ (2 * (size + 5) + 2) baud), s) := by
  rw [show k + 2 = (k + 1) + 1 from rfl, evT_in rfl tab45]
  have w1 : IntKind.i64.wrap (size + 5) = size + 5 := wrapI _ (by omega) (by omega)
  have w2 : IntKind.i64.wrap (2 * (size + 5)) = 2 * (size + 5) := wrapI _ (by omega) (by omega)
  have w3 : IntKind.i64.wrap (2 * (size + 5) + 2) = 2 * (size + 5) + 2 := wrapI _ (by omega) (by omega)
  have h := rticks_ev k (2 * (size + 5) + 2) baud ⟨by simp [IntKind.min, IntKind.bits, IntKind.signed]; omega, by simp [IntKind.max, IntKind.bits, IntKind.signed]; omega⟩
  simp only [M45, w1, w2, w3, h, i64_mul, qES0, qES1, qES2, env0, List.length_cons, List.length_nil, Nat.reduceAdd, Nat.reduceSub, List.replicate, List.cons_append, List.nil_append, opd, Env.put, Env.at, List.set_cons_zero, List.set_cons_succ, List.getD_cons_zero, List.getD_cons_succ, freezeL, resVs, oneOr, Option.map_some, Option.map_none, List.map_cons, List.map_nil, if_true, if_false, Bool.not_true, Bool.not_false, Bool.false_eq_true, reduceIte, decide_true, decide_false, Int.reduceLT, Int.reduceLE, Int.reduceGT, Int.reduceGE, Int.reduceEq, Int.reduceBEq, Int.reduceBNe, load_ptr, ldV_some, cellAt_cells, List.getElem?_cons_zero, List.getElem?_cons_succ, store_ptr, stO_some, setAt_0, setAt_1, setAt_2, setAt_3, setAt_4, setAt_5, setAt_6, setAt_7, setAt_8, setAt_9, setAt_10, setAt_11, setAt_12, cells_int, cells_bool, cells_str, cells_nils, cells_nilp, cells_ptr, cells_sl, cells_u8, cells_u16, cells_agg, get_upd_is, Option.isSome_some, upd_upd, ev1_nchkV, ev1_faV, nchkV_ptr, faV_ptr, ev1_extV, extV_tup, eqptr_nil, eqptr_ptr, Nat.zero_add, Nat.add_zero, qPL0, qPL1, qPL2, qPL3, qPL4, qPL5, beq_self_eq_true]
end Go.Proofs.YtbeimfhodgmjhaaDoor
/- The document's High and Low: bits one by one. No conditions. -/
set_option linter.unusedSimpArgs false
set_option linter.unusedVariables false
set_option maxRecDepth 100000
set_option maxHeartbeats 4000000
namespace Go.Ab
open Go
theorem set_getD (e : Env) (i : Nat) (v : AV) (h : i < e.length) : (List.set e i v).getD i .undef = v := by
  rw [List.getD_eq_getElem?_getD, List.getElem?_set_self h]; rfl
end Go.Ab
namespace Go.Proofs.YtbeimfhodgmjhaaDoor
open Go Go.Ab
/-! Bits one by one. -/
theorem shr_i64 (n : Int) (i : Nat) (hi : i < 64) : binV .shr (.int .i64 n) (.int .i64 (i : Int)) = some (.int .i64 (n / ((2 ^ i : Nat) : Int))) := by
  show (if (i : Int) < 0 then none else some (AV.int .i64 (n.fdiv (2 ^ (min (Int.toNat (i : Int)) 64))))) = _
  rw [if_neg (by omega), Int.toNat_natCast, Nat.min_eq_left (by omega)]
  congr 2
  rw [show ((2 : Int) ^ i) = ((2 ^ i : Nat) : Int) by norm_cast, Int.fdiv_eq_ediv_of_nonneg _ (Int.natCast_nonneg _)]
theorem bit_low (n : Int) (i : Nat) (hi : i < 16) : decide (n / ((2 ^ i : Nat) : Int) % 2 = 1) = (n % 65536).toNat.testBit i := by
  obtain ⟨m, hm⟩ : ∃ m : Nat, n % 65536 = (m : Int) := ⟨(n % 65536).toNat, by omega⟩
  obtain ⟨q, hq⟩ : ∃ q : Int, n = 65536 * q + m := ⟨n / 65536, by omega⟩
  rw [hm, Int.toNat_natCast, Nat.testBit_eq_decide_div_mod_eq]
  apply decide_eq_decide.2
  have h2 : (65536 : Int) = ((2 ^ i : Nat) : Int) * ((2 ^ (16 - i) : Nat) : Int) := by
    rw [← Int.natCast_mul, ← Nat.pow_add, show i + (16 - i) = 16 by omega]; rfl
  have hp : (0 : Int) < ((2 ^ i : Nat) : Int) := by exact_mod_cast Nat.pow_pos (by omega)
  have h3 : n / ((2 ^ i : Nat) : Int) = ((2 ^ (16 - i) : Nat) : Int) * q + ((m / 2 ^ i : Nat) : Int) := by
    rw [hq, h2, Int.mul_assoc, Int.mul_add_ediv_left _ _ (by omega)]
    rw [Int.natCast_ediv]
  have h4 : ∃ r : Nat, 2 ^ (16 - i) = 2 * r := ⟨2 ^ (15 - i), by rw [show 16 - i = (15 - i) + 1 by omega, Nat.pow_succ]; omega⟩
  obtain ⟨r, hr⟩ := h4
  rw [h3, hr]
  obtain ⟨y, hy⟩ : ∃ y : Int, y = (r : Int) * q := ⟨_, rfl⟩
  have : ((2 * r : Nat) : Int) * q = 2 * y := by rw [hy]; push_cast; rw [Int.mul_assoc]
  rw [this]
  omega
theorem at_ev (k : Nat) (n : Int) (i : Nat) (hi : i < 16) (s : St) : evT (k + 1) 64 [.int .i64 n, .int .i64 (i : Int)] s = some (.bool ((n % 65536).toNat.testBit i), s) := by
  rw [evT_in rfl tab64]
  have h1 := shr_i64 n i (by omega)
  have h2 := and_1 (n / ((2 ^ i : Nat) : Int))
  have h3 := bit_low n i hi
  simp only [M64, h1, h2, qES0, qES1, qES2, env0, List.length_cons, List.length_nil, Nat.reduceAdd, Nat.reduceSub, List.replicate, List.cons_append, List.nil_append, opd, Env.put, Env.at, List.set_cons_zero, List.set_cons_succ, List.getD_cons_zero, List.getD_cons_succ, freezeL, resVs, oneOr, Option.map_some, Option.map_none, List.map_cons, List.map_nil, if_true, if_false, Bool.not_true, Bool.not_false, Bool.false_eq_true, reduceIte, decide_true, decide_false, Int.reduceLT, Int.reduceLE, Int.reduceGT, Int.reduceGE, Int.reduceEq, Int.reduceBEq, Int.reduceBNe, load_ptr, ldV_some, cellAt_cells, List.getElem?_cons_zero, List.getElem?_cons_succ, store_ptr, stO_some, setAt_0, setAt_1, setAt_2, setAt_3, setAt_4, setAt_5, setAt_6, setAt_7, setAt_8, setAt_9, setAt_10, setAt_11, setAt_12, cells_int, cells_bool, cells_str, cells_nils, cells_nilp, cells_ptr, cells_sl, cells_u8, cells_u16, cells_agg, get_upd_is, Option.isSome_some, upd_upd, ev1_nchkV, ev1_faV, nchkV_ptr, faV_ptr, ev1_extV, extV_tup, eqptr_nil, eqptr_ptr, Nat.zero_add, Nat.add_zero, qPL0, qPL1, qPL2, qPL3, qPL4, qPL5, beq_self_eq_true]
  rw [← h3]
  congr 2
def E27 (n j : Int) : Env := [.int .i64 n, .undef, .undef, .int .i64 j, .undef, .undef, .undef, .undef, .undef, .undef, .undef, .undef]
theorem rhigh_ev (k : Nat) (n : Int) (s : St) : evT (k + 30) 27 [.int .i64 n] s = some (.int .i64 (highZ n), s) := by
  rw [show k + 30 = (k + 29) + 1 from rfl, evT_in rfl tab27]
  obtain ⟨m, hm⟩ : ∃ m : Nat, (n % 65536).toNat = m := ⟨_, rfl⟩
  have hat := fun (i : Nat) (hi : i < 16) => at_ev (k + 28) n i hi s
  rw [hm] at hat
  obtain ⟨R, hR⟩ : ∃ R, hiW m 16 = R := ⟨_, rfl⟩
  obtain ⟨out, ho, hp⟩ : ∃ out, iter (evC tabGl (evT (k + 29)) (k + 29) M27b0) M27b0l (k + 29) (E27 n 15) s = out ∧ ((∃ e', out = some (.ret, e', s) ∧ e'.getD 2 .undef = .int .i64 (R)) ∨ (∃ e', out = some (.exit 0, e', s) ∧ e'.length = 12 ∧ R = -1)) := by
    refine ⟨_, rfl, iter_leave (evC tabGl (evT (k + 29)) (k + 29) M27b0) M27b0l (fun i e st => maskE M27b0l e = E27 n (15 - (i : Int)) ∧ st = s ∧ R = hiW m (16 - i)) (fun out => (∃ e', out = some (.ret, e', s) ∧ e'.getD 2 .undef = .int .i64 (R)) ∨ (∃ e', out = some (.exit 0, e', s) ∧ e'.length = 12 ∧ R = -1)) 16 ?_ ?_ 16 0 _ _ (k + 29) rfl ⟨rfl, rfl, hR.symm⟩ (by omega)⟩
    · rintro i e st hi ⟨h1, rfl, h3⟩
      rw [h1]
      obtain ⟨j, hj⟩ : ∃ j : Nat, 15 - i = j := ⟨_, rfl⟩
      have hj2 : 15 - (i : Int) = (j : Int) := by omega
      have d : decide ((j : Int) ≥ 0) = true := decide_eq_true (by omega)
      have w : IntKind.i64.wrap ((j : Int) - 1) = (j : Int) - 1 := wrapI _ (by omega) (by omega)
      have ha := hat j (by omega)
      rw [show 16 - i = j + 1 by omega] at h3
      unfold hiW at h3
      rw [hj2]
      cases hb : m.testBit j with
      | true =>
        right
        rw [hb] at ha h3
        rw [if_pos rfl] at h3
        simp only [M27b0, E27, d, ha, qES0, qES1, qES2, env0, List.length_cons, List.length_nil, Nat.reduceAdd, Nat.reduceSub, List.replicate, List.cons_append, List.nil_append, opd, Env.put, Env.at, List.set_cons_zero, List.set_cons_succ, List.getD_cons_zero, List.getD_cons_succ, freezeL, resVs, oneOr, Option.map_some, Option.map_none, List.map_cons, List.map_nil, if_true, if_false, Bool.not_true, Bool.not_false, Bool.false_eq_true, reduceIte, decide_true, decide_false, Int.reduceLT, Int.reduceLE, Int.reduceGT, Int.reduceGE, Int.reduceEq, Int.reduceBEq, Int.reduceBNe, load_ptr, ldV_some, cellAt_cells, List.getElem?_cons_zero, List.getElem?_cons_succ, store_ptr, stO_some, setAt_0, setAt_1, setAt_2, setAt_3, setAt_4, setAt_5, setAt_6, setAt_7, setAt_8, setAt_9, setAt_10, setAt_11, setAt_12, cells_int, cells_bool, cells_str, cells_nils, cells_nilp, cells_ptr, cells_sl, cells_u8, cells_u16, cells_agg, get_upd_is, Option.isSome_some, upd_upd, ev1_nchkV, ev1_faV, nchkV_ptr, faV_ptr, ev1_extV, extV_tup, eqptr_nil, eqptr_ptr, Nat.zero_add, Nat.add_zero, qPL0, qPL1, qPL2, qPL3, qPL4, qPL5, beq_self_eq_true]
        refine ⟨.inl ⟨_, rfl, ?_⟩, fun _ _ h => by cases h⟩
        rw [h3]; rfl
      | false =>
        left
        rw [hb] at ha h3
        rw [if_neg (by decide)] at h3
        simp only [M27b0, E27, d, ha, w, qES0, qES1, qES2, env0, List.length_cons, List.length_nil, Nat.reduceAdd, Nat.reduceSub, List.replicate, List.cons_append, List.nil_append, opd, Env.put, Env.at, List.set_cons_zero, List.set_cons_succ, List.getD_cons_zero, List.getD_cons_succ, freezeL, resVs, oneOr, Option.map_some, Option.map_none, List.map_cons, List.map_nil, if_true, if_false, Bool.not_true, Bool.not_false, Bool.false_eq_true, reduceIte, decide_true, decide_false, Int.reduceLT, Int.reduceLE, Int.reduceGT, Int.reduceGE, Int.reduceEq, Int.reduceBEq, Int.reduceBNe, load_ptr, ldV_some, cellAt_cells, List.getElem?_cons_zero, List.getElem?_cons_succ, store_ptr, stO_some, setAt_0, setAt_1, setAt_2, setAt_3, setAt_4, setAt_5, setAt_6, setAt_7, setAt_8, setAt_9, setAt_10, setAt_11, setAt_12, cells_int, cells_bool, cells_str, cells_nils, cells_nilp, cells_ptr, cells_sl, cells_u8, cells_u16, cells_agg, get_upd_is, Option.isSome_some, upd_upd, ev1_nchkV, ev1_faV, nchkV_ptr, faV_ptr, ev1_extV, extV_tup, eqptr_nil, eqptr_ptr, Nat.zero_add, Nat.add_zero, qPL0, qPL1, qPL2, qPL3, qPL4, qPL5, beq_self_eq_true]
        refine ⟨_, _, rfl, ?_, rfl, ?_⟩
        · show E27 n ((j : Int) - 1) = E27 n (15 - ((i + 1 : Nat) : Int))
          congr 1; omega
        · rw [h3]; congr 1; omega
    · rintro e st ⟨h1, rfl, h3⟩
      rw [h1]
      have d : decide ((15 - ((16 : Nat) : Int)) ≥ 0) = false := rfl
      simp only [M27b0, E27, d, qES0, qES1, qES2, env0, List.length_cons, List.length_nil, Nat.reduceAdd, Nat.reduceSub, List.replicate, List.cons_append, List.nil_append, opd, Env.put, Env.at, List.set_cons_zero, List.set_cons_succ, List.getD_cons_zero, List.getD_cons_succ, freezeL, resVs, oneOr, Option.map_some, Option.map_none, List.map_cons, List.map_nil, if_true, if_false, Bool.not_true, Bool.not_false, Bool.false_eq_true, reduceIte, decide_true, decide_false, Int.reduceLT, Int.reduceLE, Int.reduceGT, Int.reduceGE, Int.reduceEq, Int.reduceBEq, Int.reduceBNe, load_ptr, ldV_some, cellAt_cells, List.getElem?_cons_zero, List.getElem?_cons_succ, store_ptr, stO_some, setAt_0, setAt_1, setAt_2, setAt_3, setAt_4, setAt_5, setAt_6, setAt_7, setAt_8, setAt_9, setAt_10, setAt_11, setAt_12, cells_int, cells_bool, cells_str, cells_nils, cells_nilp, cells_ptr, cells_sl, cells_u8, cells_u16, cells_agg, get_upd_is, Option.isSome_some, upd_upd, ev1_nchkV, ev1_faV, nchkV_ptr, faV_ptr, ev1_extV, extV_tup, eqptr_nil, eqptr_ptr, Nat.zero_add, Nat.add_zero, qPL0, qPL1, qPL2, qPL3, qPL4, qPL5, beq_self_eq_true]
      exact ⟨.inr ⟨_, rfl, rfl, h3⟩, fun _ _ h => by cases h⟩
  have hl := iter_to rfl ho
  have e : highZ n = R := by unfold highZ; rw [hm, hR]
  rw [e]
  simp only [M27, evC_loop, qES0, qES1, qES2, env0, List.length_cons, List.length_nil, Nat.reduceAdd, Nat.reduceSub, List.replicate, List.cons_append, List.nil_append, opd, Env.put, Env.at, List.set_cons_zero, List.set_cons_succ, List.getD_cons_zero, List.getD_cons_succ, freezeL, resVs, oneOr, Option.map_some, Option.map_none, List.map_cons, List.map_nil, if_true, if_false, Bool.not_true, Bool.not_false, Bool.false_eq_true, reduceIte, decide_true, decide_false, Int.reduceLT, Int.reduceLE, Int.reduceGT, Int.reduceGE, Int.reduceEq, Int.reduceBEq, Int.reduceBNe, load_ptr, ldV_some, cellAt_cells, List.getElem?_cons_zero, List.getElem?_cons_succ, store_ptr, stO_some, setAt_0, setAt_1, setAt_2, setAt_3, setAt_4, setAt_5, setAt_6, setAt_7, setAt_8, setAt_9, setAt_10, setAt_11, setAt_12, cells_int, cells_bool, cells_str, cells_nils, cells_nilp, cells_ptr, cells_sl, cells_u8, cells_u16, cells_agg, get_upd_is, Option.isSome_some, upd_upd, ev1_nchkV, ev1_faV, nchkV_ptr, faV_ptr, ev1_extV, extV_tup, eqptr_nil, eqptr_ptr, Nat.zero_add, Nat.add_zero, qPL0, qPL1, qPL2, qPL3, qPL4, qPL5, beq_self_eq_true]
  rw [hl _ rfl]
  rcases hp with ⟨e', rfl, h2⟩ | ⟨e', rfl, h2, h3⟩
  · simp only [M27r0, h2, qES0, qES1, qES2, env0, List.length_cons, List.length_nil, Nat.reduceAdd, Nat.reduceSub, List.replicate, List.cons_append, List.nil_append, opd, Env.put, Env.at, List.set_cons_zero, List.set_cons_succ, List.getD_cons_zero, List.getD_cons_succ, freezeL, resVs, oneOr, Option.map_some, Option.map_none, List.map_cons, List.map_nil, if_true, if_false, Bool.not_true, Bool.not_false, Bool.false_eq_true, reduceIte, decide_true, decide_false, Int.reduceLT, Int.reduceLE, Int.reduceGT, Int.reduceGE, Int.reduceEq, Int.reduceBEq, Int.reduceBNe, load_ptr, ldV_some, cellAt_cells, List.getElem?_cons_zero, List.getElem?_cons_succ, store_ptr, stO_some, setAt_0, setAt_1, setAt_2, setAt_3, setAt_4, setAt_5, setAt_6, setAt_7, setAt_8, setAt_9, setAt_10, setAt_11, setAt_12, cells_int, cells_bool, cells_str, cells_nils, cells_nilp, cells_ptr, cells_sl, cells_u8, cells_u16, cells_agg, get_upd_is, Option.isSome_some, upd_upd, ev1_nchkV, ev1_faV, nchkV_ptr, faV_ptr, ev1_extV, extV_tup, eqptr_nil, eqptr_ptr, Nat.zero_add, Nat.add_zero, qPL0, qPL1, qPL2, qPL3, qPL4, qPL5, beq_self_eq_true]
  · have h4 := set_getD e' 2 (.int .i64 (-1)) (by omega)
    simp only [M27r0, h3, h4, qES0, qES1, qES2, env0, List.length_cons, List.length_nil, Nat.reduceAdd, Nat.reduceSub, List.replicate, List.cons_append, List.nil_append, opd, Env.put, Env.at, List.set_cons_zero, List.set_cons_succ, List.getD_cons_zero, List.getD_cons_succ, freezeL, resVs, oneOr, Option.map_some, Option.map_none, List.map_cons, List.map_nil, if_true, if_false, Bool.not_true, Bool.not_false, Bool.false_eq_true, reduceIte, decide_true, decide_false, Int.reduceLT, Int.reduceLE, Int.reduceGT, Int.reduceGE, Int.reduceEq, Int.reduceBEq, Int.reduceBNe, load_ptr, ldV_some, cellAt_cells, List.getElem?_cons_zero, List.getElem?_cons_succ, store_ptr, stO_some, setAt_0, setAt_1, setAt_2, setAt_3, setAt_4, setAt_5, setAt_6, setAt_7, setAt_8, setAt_9, setAt_10, setAt_11, setAt_12, cells_int, cells_bool, cells_str, cells_nils, cells_nilp, cells_ptr, cells_sl, cells_u8, cells_u16, cells_agg, get_upd_is, Option.isSome_some, upd_upd, ev1_nchkV, ev1_faV, nchkV_ptr, faV_ptr, ev1_extV, extV_tup, eqptr_nil, eqptr_ptr, Nat.zero_add, Nat.add_zero, qPL0, qPL1, qPL2, qPL3, qPL4, qPL5, beq_self_eq_true]
theorem rlow_ev (k : Nat) (n : Int) (s : St) : evT (k + 30) 29 [.int .i64 n] s = some (.int .i64 (lowZ n), s) := by
  rw [show k + 30 = (k + 29) + 1 from rfl, evT_in rfl tab29]
  obtain ⟨m, hm⟩ : ∃ m : Nat, (n % 65536).toNat = m := ⟨_, rfl⟩
  have hat := fun (i : Nat) (hi : i < 16) => at_ev (k + 28) n i hi s
  rw [hm] at hat
  obtain ⟨R, hR⟩ : ∃ R, loW m 16 0 = R := ⟨_, rfl⟩
  obtain ⟨out, ho, hp⟩ : ∃ out, iter (evC tabGl (evT (k + 29)) (k + 29) M29b0) M29b0l (k + 29) (E27 n 0) s = out ∧ ((∃ e', out = some (.ret, e', s) ∧ e'.getD 2 .undef = .int .i64 (R)) ∨ (∃ e', out = some (.exit 0, e', s) ∧ e'.length = 12 ∧ R = -1)) := by
    refine ⟨_, rfl, iter_leave (evC tabGl (evT (k + 29)) (k + 29) M29b0) M29b0l (fun i e st => maskE M29b0l e = E27 n (i : Int) ∧ st = s ∧ R = loW m (16 - i) i) (fun out => (∃ e', out = some (.ret, e', s) ∧ e'.getD 2 .undef = .int .i64 (R)) ∨ (∃ e', out = some (.exit 0, e', s) ∧ e'.length = 12 ∧ R = -1)) 16 ?_ ?_ 16 0 _ _ (k + 29) rfl ⟨rfl, rfl, hR.symm⟩ (by omega)⟩
    · rintro j e st hi ⟨h1, rfl, h3⟩
      rw [h1]
      have d : decide ((j : Int) ≤ 15) = true := decide_eq_true (by omega)
      have w : IntKind.i64.wrap ((j : Int) + 1) = ((j + 1 : Nat) : Int) := (wrapI _ (by omega) (by omega)).trans (by omega)
      have ha := hat j (by omega)
      rw [show 16 - j = (15 - j) + 1 by omega] at h3
      unfold loW at h3
      cases hb : m.testBit j with
      | true =>
        right
        rw [hb] at ha h3
        rw [if_pos rfl] at h3
        simp only [M29b0, E27, d, ha, qES0, qES1, qES2, env0, List.length_cons, List.length_nil, Nat.reduceAdd, Nat.reduceSub, List.replicate, List.cons_append, List.nil_append, opd, Env.put, Env.at, List.set_cons_zero, List.set_cons_succ, List.getD_cons_zero, List.getD_cons_succ, freezeL, resVs, oneOr, Option.map_some, Option.map_none, List.map_cons, List.map_nil, if_true, if_false, Bool.not_true, Bool.not_false, Bool.false_eq_true, reduceIte, decide_true, decide_false, Int.reduceLT, Int.reduceLE, Int.reduceGT, Int.reduceGE, Int.reduceEq, Int.reduceBEq, Int.reduceBNe, load_ptr, ldV_some, cellAt_cells, List.getElem?_cons_zero, List.getElem?_cons_succ, store_ptr, stO_some, setAt_0, setAt_1, setAt_2, setAt_3, setAt_4, setAt_5, setAt_6, setAt_7, setAt_8, setAt_9, setAt_10, setAt_11, setAt_12, cells_int, cells_bool, cells_str, cells_nils, cells_nilp, cells_ptr, cells_sl, cells_u8, cells_u16, cells_agg, get_upd_is, Option.isSome_some, upd_upd, ev1_nchkV, ev1_faV, nchkV_ptr, faV_ptr, ev1_extV, extV_tup, eqptr_nil, eqptr_ptr, Nat.zero_add, Nat.add_zero, qPL0, qPL1, qPL2, qPL3, qPL4, qPL5, beq_self_eq_true]
        refine ⟨.inl ⟨_, rfl, ?_⟩, fun _ _ h => by cases h⟩
        rw [h3]; rfl
      | false =>
        left
        rw [hb] at ha h3
        rw [if_neg (by decide)] at h3
        simp only [M29b0, E27, d, ha, w, qES0, qES1, qES2, env0, List.length_cons, List.length_nil, Nat.reduceAdd, Nat.reduceSub, List.replicate, List.cons_append, List.nil_append, opd, Env.put, Env.at, List.set_cons_zero, List.set_cons_succ, List.getD_cons_zero, List.getD_cons_succ, freezeL, resVs, oneOr, Option.map_some, Option.map_none, List.map_cons, List.map_nil, if_true, if_false, Bool.not_true, Bool.not_false, Bool.false_eq_true, reduceIte, decide_true, decide_false, Int.reduceLT, Int.reduceLE, Int.reduceGT, Int.reduceGE, Int.reduceEq, Int.reduceBEq, Int.reduceBNe, load_ptr, ldV_some, cellAt_cells, List.getElem?_cons_zero, List.getElem?_cons_succ, store_ptr, stO_some, setAt_0, setAt_1, setAt_2, setAt_3, setAt_4, setAt_5, setAt_6, setAt_7, setAt_8, setAt_9, setAt_10, setAt_11, setAt_12, cells_int, cells_bool, cells_str, cells_nils, cells_nilp, cells_ptr, cells_sl, cells_u8, cells_u16, cells_agg, get_upd_is, Option.isSome_some, upd_upd, ev1_nchkV, ev1_faV, nchkV_ptr, faV_ptr, ev1_extV, extV_tup, eqptr_nil, eqptr_ptr, Nat.zero_add, Nat.add_zero, qPL0, qPL1, qPL2, qPL3, qPL4, qPL5, beq_self_eq_true]
        refine ⟨_, _, rfl, rfl, rfl, ?_⟩
        rw [h3]; congr 1; omega
    · rintro e st ⟨h1, rfl, h3⟩
      rw [h1]
      have d : decide (((16 : Nat) : Int) ≤ 15) = false := rfl
      simp only [M29b0, E27, d, qES0, qES1, qES2, env0, List.length_cons, List.length_nil, Nat.reduceAdd, Nat.reduceSub, List.replicate, List.cons_append, List.nil_append, opd, Env.put, Env.at, List.set_cons_zero, List.set_cons_succ, List.getD_cons_zero, List.getD_cons_succ, freezeL, resVs, oneOr, Option.map_some, Option.map_none, List.map_cons, List.map_nil, if_true, if_false, Bool.not_true, Bool.not_false, Bool.false_eq_true, reduceIte, decide_true, decide_false, Int.reduceLT, Int.reduceLE, Int.reduceGT, Int.reduceGE, Int.reduceEq, Int.reduceBEq, Int.reduceBNe, load_ptr, ldV_some, cellAt_cells, List.getElem?_cons_zero, List.getElem?_cons_succ, store_ptr, stO_some, setAt_0, setAt_1, setAt_2, setAt_3, setAt_4, setAt_5, setAt_6, setAt_7, setAt_8, setAt_9, setAt_10, setAt_11, setAt_12, cells_int, cells_bool, cells_str, cells_nils, cells_nilp, cells_ptr, cells_sl, cells_u8, cells_u16, cells_agg, get_upd_is, Option.isSome_some, upd_upd, ev1_nchkV, ev1_faV, nchkV_ptr, faV_ptr, ev1_extV, extV_tup, eqptr_nil, eqptr_ptr, Nat.zero_add, Nat.add_zero, qPL0, qPL1, qPL2, qPL3, qPL4, qPL5, beq_self_eq_true]
      exact ⟨.inr ⟨_, rfl, rfl, h3⟩, fun _ _ h => by cases h⟩
  have hl := iter_to rfl ho
  have e : lowZ n = R := by unfold lowZ; rw [hm, hR]
  rw [e]
  simp only [M29, evC_loop, qES0, qES1, qES2, env0, List.length_cons, List.length_nil, Nat.reduceAdd, Nat.reduceSub, List.replicate, List.cons_append, List.nil_append, opd, Env.put, Env.at, List.set_cons_zero, List.set_cons_succ, List.getD_cons_zero, List.getD_cons_succ, freezeL, resVs, oneOr, Option.map_some, Option.map_none, List.map_cons, List.map_nil, if_true, if_false, Bool.not_true, Bool.not_false, Bool.false_eq_true, reduceIte, decide_true, decide_false, Int.reduceLT, Int.reduceLE, Int.reduceGT, Int.reduceGE, Int.reduceEq, Int.reduceBEq, Int.reduceBNe, load_ptr, ldV_some, cellAt_cells, List.getElem?_cons_zero, List.getElem?_cons_succ, store_ptr, stO_some, setAt_0, setAt_1, setAt_2, setAt_3, setAt_4, setAt_5, setAt_6, setAt_7, setAt_8, setAt_9, setAt_10, setAt_11, setAt_12, cells_int, cells_bool, cells_str, cells_nils, cells_nilp, cells_ptr, cells_sl, cells_u8, cells_u16, cells_agg, get_upd_is, Option.isSome_some, upd_upd, ev1_nchkV, ev1_faV, nchkV_ptr, faV_ptr, ev1_extV, extV_tup, eqptr_nil, eqptr_ptr, Nat.zero_add, Nat.add_zero, qPL0, qPL1, qPL2, qPL3, qPL4, qPL5, beq_self_eq_true]
  rw [hl _ rfl]
  rcases hp with ⟨e', rfl, h2⟩ | ⟨e', rfl, h2, h3⟩
  · simp only [M29r0, h2, qES0, qES1, qES2, env0, List.length_cons, List.length_nil, Nat.reduceAdd, Nat.reduceSub, List.replicate, List.cons_append, List.nil_append, opd, Env.put, Env.at, List.set_cons_zero, List.set_cons_succ, List.getD_cons_zero, List.getD_cons_succ, freezeL, resVs, oneOr, Option.map_some, Option.map_none, List.map_cons, List.map_nil, if_true, if_false, Bool.not_true, Bool.not_false, Bool.false_eq_true, reduceIte, decide_true, decide_false, Int.reduceLT, Int.reduceLE, Int.reduceGT, Int.reduceGE, Int.reduceEq, Int.reduceBEq, Int.reduceBNe, load_ptr, ldV_some, cellAt_cells, List.getElem?_cons_zero, List.getElem?_cons_succ, store_ptr, stO_some, setAt_0, setAt_1, setAt_2, setAt_3, setAt_4, setAt_5, setAt_6, setAt_7, setAt_8, setAt_9, setAt_10, setAt_11, setAt_12, cells_int, cells_bool, cells_str, cells_nils, cells_nilp, cells_ptr, cells_sl, cells_u8, cells_u16, cells_agg, get_upd_is, Option.isSome_some, upd_upd, ev1_nchkV, ev1_faV, nchkV_ptr, faV_ptr, ev1_extV, extV_tup, eqptr_nil, eqptr_ptr, Nat.zero_add, Nat.add_zero, qPL0, qPL1, qPL2, qPL3, qPL4, qPL5, beq_self_eq_true]
  · have h4 := set_getD e' 2 (.int .i64 (-1)) (by omega)
    simp only [M29r0, h3, h4, qES0, qES1, qES2, env0, List.length_cons, List.length_nil, Nat.reduceAdd, Nat.reduceSub, List.replicate, List.cons_append, List.nil_append, opd, Env.put, Env.at, List.set_cons_zero, List.set_cons_succ, List.getD_cons_zero, List.getD_cons_succ, freezeL, resVs, oneOr, Option.map_some, Option.map_none, List.map_cons, List.map_nil, if_true, if_false, Bool.not_true, Bool.not_false, Bool.false_eq_true, reduceIte, decide_true, decide_false, Int.reduceLT, Int.reduceLE, Int.reduceGT, Int.reduceGE, Int.reduceEq, Int.reduceBEq, Int.reduceBNe, load_ptr, ldV_some, cellAt_cells, List.getElem?_cons_zero, List.getElem?_cons_succ, store_ptr, stO_some, setAt_0, setAt_1, setAt_2, setAt_3, setAt_4, setAt_5, setAt_6, setAt_7, setAt_8, setAt_9, setAt_10, setAt_11, setAt_12, cells_int, cells_bool, cells_str, cells_nils, cells_nilp, cells_ptr, cells_sl, cells_u8, cells_u16, cells_agg, get_upd_is, Option.isSome_some, upd_upd, ev1_nchkV, ev1_faV, nchkV_ptr, faV_ptr, ev1_extV, extV_tup, eqptr_nil, eqptr_ptr, Nat.zero_add, Nat.add_zero, qPL0, qPL1, qPL2, qPL3, qPL4, qPL5, beq_self_eq_true]
end Go.Proofs.YtbeimfhodgmjhaaDoor
