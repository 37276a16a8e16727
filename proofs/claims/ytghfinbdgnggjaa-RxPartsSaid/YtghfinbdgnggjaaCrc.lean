/- crc.Add, as the evaluator answers it. No conditions. -/
import Derived.Test.YtghfinbdgnggjaaM
import Derived.Test.YtghfinbdgnggjaaEv
set_option linter.unusedSimpArgs false
namespace Go.Proofs.Ytghfinbdgnggjaa
open Go Go.Ab
def rnd (c : BitVec 16) : BitVec 16 := if (c &&& 1#16) == 1#16 then (c >>> 1) ^^^ 33800#16 else c >>> 1
def rnds : Nat → BitVec 16 → BitVec 16
  | 0, c => c
  | n + 1, c => rnds n (rnd c)
theorem lit1 : (AV.int .u16 1) = u16 1#16 := rfl
theorem lit33800 : (AV.int .u16 33800) = u16 33800#16 := rfl
def E23 (c : BitVec 16) (i : Int) : Env := [u16 c, .undef, .undef, .undef, .undef, .undef, .undef, .undef, .undef, .undef, .int .i64 i, .undef, .undef, .undef, .undef, .undef, .undef, .undef, .undef, .undef, .undef, .undef]
set_option maxHeartbeats 1000000 in
theorem round23 (call : Calls') (k : Nat) (c : BitVec 16) (i : Nat) (hi : i < 8) (s : St) :
    ∃ e', evC noGl call k M23b0 (E23 c i) s = some (.nrm, e', s) ∧ maskE M23b0l e' = E23 (rnd c) (i + 1 : Nat) := by
  have h1 : ((i : Int) < 8) = True := by simp; omega
  have h2 : IntKind.i64.wrap ((i : Int) + 1) = ((i + 1 : Nat) : Int) := by rw [IntKind.wrap_i64]; omega
  unfold rnd
  cases hb : (c &&& 1#16) == 1#16 with
  | true =>
    refine ⟨_, Eq.trans (b := some (Ex.nrm, ?_, s)) ?_ rfl, ?_⟩
    case refine_2 =>
      simp only [M23b0, E23, evC_seq, evC_reg, evOps_cons, evOps_nil, guardR_none, ev1_mv, ev1_bin, opR_some, opd, Env.put, Env.at, seqR_nrm, regR_some, List.set_cons_zero, List.set_cons_succ, List.getD_cons_zero, List.getD_cons_succ, pR_some, evC_block, evC_cond, evC_skip, lit1, lit33800, b16_and, b16_shr1, b16_eql, b16_xor, i64_lss, i64_add, condR_bool, h1, decide_true, boolR_true, boolR_false, hb, blockR_nrm, h2, evC_skip]
      rfl
    case refine_3 => rfl
  | false =>
    refine ⟨_, Eq.trans (b := some (Ex.nrm, ?_, s)) ?_ rfl, ?_⟩
    case refine_2 =>
      simp only [M23b0, E23, evC_seq, evC_reg, evOps_cons, evOps_nil, guardR_none, ev1_mv, ev1_bin, opR_some, opd, Env.put, Env.at, seqR_nrm, regR_some, List.set_cons_zero, List.set_cons_succ, List.getD_cons_zero, List.getD_cons_succ, pR_some, evC_block, evC_cond, evC_skip, lit1, lit33800, b16_and, b16_shr1, b16_eql, b16_xor, i64_lss, i64_add, condR_bool, h1, decide_true, boolR_true, boolR_false, hb, blockR_nrm, h2, evC_skip]
      rfl
    case refine_3 => rfl
def rnI : Nat → BitVec 16 → BitVec 16
  | 0, c => c
  | n + 1, c => rnd (rnI n c)
theorem loop23 (call : Calls') (k : Nat) (hk : 8 < k) (c : BitVec 16) (s : St) (e : Env) (he : maskE M23b0l e = E23 c 0) :
    iter (evC noGl call k M23b0) M23b0l k e s = evC noGl call k M23b0 (E23 (rnI 8 c) 8) s := by
  refine iter_rounds _ _ (fun i e' s' => s' = s ∧ maskE M23b0l e' = E23 (rnI i c) (i : Nat)) _ 8 ?_ ?_ 8 0 e s k rfl ⟨rfl, he⟩ hk
  · rintro i e' s' hi ⟨rfl, h⟩
    obtain ⟨e2, h1, h2⟩ := round23 call k (rnI i c) i hi s'
    exact ⟨e2, s', by rw [h]; exact h1, rfl, h2⟩
  · rintro e' s' ⟨rfl, h⟩
    refine ⟨by rw [h]; rfl, fun e2 s2 => ?_⟩
    simp only [M23b0, E23, evC_seq, evC_reg, evOps_cons, evOps_nil, guardR_none, ev1_bin, opR_some, opd, Env.put, Env.at, seqR_nrm, regR_some, List.set_cons_zero, List.set_cons_succ, List.getD_cons_zero, List.getD_cons_succ, pR_some, evC_cond, evC_skip, evC_exit, i64_lss, condR_bool]
    simp [boolR, seqR]
theorem add_ev (k : Nat) (c : BitVec 16) (b : UInt8) (s : St) : ev (k + 20) 23 [u16 c, u8v b] s = some (u16 (rnI 8 (c ^^^ b.toBitVec.setWidth 16)), s) := by
  rw [show k + 20 = (k + 19) + 1 from rfl, ev_in rfl tab23]
  simp only [M23, env0, List.length_cons, List.length_nil, Nat.reduceAdd, Nat.reduceSub, List.replicate, List.cons_append, List.nil_append, evC_seq, evC_reg, evOps_cons, evOps_nil, guardR_none, ev1_mv, ev1_bin, ev1_conv, opR_some, opd, Env.put, Env.at, seqR_nrm, regR_some, List.set_cons_zero, List.set_cons_succ, List.getD_cons_zero, List.getD_cons_succ, pR_some, evC_block, evC_loop, b16_of_u8, b16_xor]
  rw [loop23 _ _ (by omega) (c ^^^ b.toBitVec.setWidth 16) _ _ rfl]
  simp only [M23b0, E23, evC_seq, evC_reg, evOps_cons, evOps_nil, guardR_none, ev1_mv, ev1_bin, opR_some, opd, Env.put, Env.at, seqR_nrm, seqR_exit, regR_some, List.set_cons_zero, List.set_cons_succ, List.getD_cons_zero, List.getD_cons_succ, pR_some, evC_block, evC_cond, evC_skip, evC_exit, evC_ret, i64_lss, condR_bool, blockR_exit]
  rfl
end Go.Proofs.Ytghfinbdgnggjaa
