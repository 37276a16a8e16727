/- glowwormref1.Add, as the evaluator answers it. No conditions. -/
import Derived.Test.YtghfinbdgnggjaaCrc
set_option linter.unusedSimpArgs false
namespace Go.Proofs.Ytghfinbdgnggjaa
open Go Go.Ab
theorem b16_rem2 (c : BitVec 16) : binV .rem (u16 c) (.int .u16 2) = some (u16 (c &&& 1#16)) := by
  show (if (2 : Int) = 0 then none else some (AV.int .u16 ((c.toNat : Int).tmod 2))) = _
  rw [if_neg (by decide)]
  simp only [u16]
  congr 2
  have : (c &&& 1#16).toNat = c.toNat % 2 := by simp [BitVec.toNat_and, Nat.and_one_is_mod]
  rw [this, Int.tmod_eq_emod_of_nonneg (by omega)]
  rfl
theorem b16_quo2 (c : BitVec 16) : binV .quo (u16 c) (.int .u16 2) = some (u16 (c >>> 1)) := by
  show (if (2 : Int) = 0 then none else some (AV.int .u16 (IntKind.u16.wrap ((c.toNat : Int).tdiv 2)))) = _
  rw [if_neg (by decide)]
  simp only [u16]
  have h2 : (c >>> 1).toNat = c.toNat / 2 := by rw [BitVec.toNat_ushiftRight, Nat.shiftRight_eq_div_pow]
  rw [h2, Int.tdiv_eq_ediv_of_nonneg (by omega)]
  have := c.isLt
  rw [show ((c.toNat : Int) / 2) = ((c.toNat / 2 : Nat) : Int) from rfl, wrap16 _ (by omega)]
theorem b16_eql1 (c : BitVec 16) : binV .eql (u16 c) (.int .u16 1) = some (.bool (c == 1#16)) := b16_eql c 1#16
def E24 (c : BitVec 16) (i : Int) : Env := [u16 c, .undef, .undef, .undef, .undef, .int .i64 i, .undef, .undef, .undef, .undef, .undef, .undef, .undef, .undef, .undef, .undef, .undef, .undef, .undef, .undef, .undef, .undef, .undef, .undef]
theorem round24 (call : Calls') (k : Nat) (c : BitVec 16) (i : Nat) (hi : i < 8) (s : St) :
    ∃ e', evC noGl call k M24b0 (E24 c i) s = some (.nrm, e', s) ∧ maskE M24b0l e' = E24 (rnd c) (i + 1 : Nat) := by
  have h1 : ((i : Int) < 8) = True := by simp; omega
  have h2 : IntKind.i64.wrap ((i : Int) + 1) = ((i + 1 : Nat) : Int) := by rw [IntKind.wrap_i64]; omega
  unfold rnd
  cases hb : (c &&& 1#16) == 1#16 with
  | true =>
    refine ⟨_, Eq.trans (b := some (Ex.nrm, ?_, s)) ?_ rfl, ?_⟩
    case refine_2 =>
      simp only [M24b0, E24, evC_seq, evC_reg, evOps_cons, evOps_nil, guardR_none, ev1_mv, ev1_bin, opR_some, opd, Env.put, Env.at, seqR_nrm, regR_some, List.set_cons_zero, List.set_cons_succ, List.getD_cons_zero, List.getD_cons_succ, pR_some, evC_block, evC_cond, evC_skip, lit33800, b16_rem2, b16_quo2, b16_eql1, b16_xor, i64_lss, i64_add, condR_bool, h1, decide_true, boolR_true, boolR_false, hb, blockR_nrm, h2, evC_skip]
      rfl
    case refine_3 => rfl
  | false =>
    refine ⟨_, Eq.trans (b := some (Ex.nrm, ?_, s)) ?_ rfl, ?_⟩
    case refine_2 =>
      simp only [M24b0, E24, evC_seq, evC_reg, evOps_cons, evOps_nil, guardR_none, ev1_mv, ev1_bin, opR_some, opd, Env.put, Env.at, seqR_nrm, regR_some, List.set_cons_zero, List.set_cons_succ, List.getD_cons_zero, List.getD_cons_succ, pR_some, evC_block, evC_cond, evC_skip, lit33800, b16_rem2, b16_quo2, b16_eql1, b16_xor, i64_lss, i64_add, condR_bool, h1, decide_true, boolR_true, boolR_false, hb, blockR_nrm, h2, evC_skip]
      rfl
    case refine_3 => rfl
theorem loop24 (call : Calls') (k : Nat) (hk : 8 < k) (c : BitVec 16) (s : St) (e : Env) (he : maskE M24b0l e = E24 c 0) :
    iter (evC noGl call k M24b0) M24b0l k e s = evC noGl call k M24b0 (E24 (rnI 8 c) 8) s := by
  refine iter_rounds _ _ (fun i e' s' => s' = s ∧ maskE M24b0l e' = E24 (rnI i c) (i : Nat)) _ 8 ?_ ?_ 8 0 e s k rfl ⟨rfl, he⟩ hk
  · rintro i e' s' hi ⟨rfl, h⟩
    obtain ⟨e2, h1, h2⟩ := round24 call k (rnI i c) i hi s'
    exact ⟨e2, s', by rw [h]; exact h1, rfl, h2⟩
  · rintro e' s' ⟨rfl, h⟩
    refine ⟨by rw [h]; rfl, fun e2 s2 => ?_⟩
    simp only [M24b0, E24, evC_seq, evC_reg, evOps_cons, evOps_nil, guardR_none, ev1_mv, ev1_bin, opR_some, opd, Env.put, Env.at, seqR_nrm, regR_some, List.set_cons_zero, List.set_cons_succ, List.getD_cons_zero, List.getD_cons_succ, pR_some, evC_cond, evC_skip, evC_exit, i64_lss, condR_bool]
    simp [boolR, seqR]
theorem refAdd_ev (k : Nat) (c : BitVec 16) (b : UInt8) (s : St) : ev (k + 20) 24 [u16 c, u8v b] s = some (u16 (rnI 8 (c ^^^ b.toBitVec.setWidth 16)), s) := by
  rw [show k + 20 = (k + 19) + 1 from rfl, ev_in rfl tab24]
  simp only [M24, env0, List.length_cons, List.length_nil, Nat.reduceAdd, Nat.reduceSub, List.replicate, List.cons_append, List.nil_append, evC_seq, evC_reg, evOps_cons, evOps_nil, guardR_none, ev1_mv, ev1_bin, ev1_conv, opR_some, opd, Env.put, Env.at, seqR_nrm, regR_some, List.set_cons_zero, List.set_cons_succ, List.getD_cons_zero, List.getD_cons_succ, pR_some, evC_block, evC_loop, b16_of_u8, b16_xor]
  rw [loop24 _ _ (by omega) (c ^^^ b.toBitVec.setWidth 16) _ _ rfl]
  simp only [M24b0, E24, evC_seq, evC_reg, evOps_cons, evOps_nil, guardR_none, ev1_mv, ev1_bin, opR_some, opd, Env.put, Env.at, seqR_nrm, seqR_exit, regR_some, List.set_cons_zero, List.set_cons_succ, List.getD_cons_zero, List.getD_cons_succ, pR_some, evC_block, evC_cond, evC_skip, evC_exit, evC_ret, i64_lss, condR_bool, blockR_exit]
  rfl
end Go.Proofs.Ytghfinbdgnggjaa
