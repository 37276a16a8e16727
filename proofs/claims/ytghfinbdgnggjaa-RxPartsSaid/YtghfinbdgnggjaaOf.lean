/- crc.Of, as the evaluator answers it. No conditions. -/
import Derived.Test.YtghfinbdgnggjaaCrc
set_option linter.unusedSimpArgs false
namespace Go.Proofs.Ytghfinbdgnggjaa
open Go Go.Ab
def crcAdd (c : BitVec 16) (x : UInt8) : BitVec 16 := rnI 8 (c ^^^ x.toBitVec.setWidth 16)
def E21 (c : BitVec 16) (x : AV) (n i : Int) : Env := [.undef, .undef, .undef, u16 c, .undef, .undef, x, .int .i64 n, .int .i64 i, .undef, .undef, .undef, .undef, .undef, .undef, .undef, .undef, .undef]
theorem round21 (k k' : Nat) (c : BitVec 16) (xs : List UInt8) (tk : Option (Nat × Nat × Nat)) (i : Nat) (hi : i < xs.length) (hl : xs.length ≤ 1000000) (s : St) :
    ∃ e', evC noGl (ev (k + 20)) k' M21b0 (E21 c (.sl (bytesAV xs) xs.length tk) xs.length i) s = some (.nrm, e', s) ∧ maskE M21b0l e' = E21 (crcAdd c xs[i]) (.sl (bytesAV xs) xs.length tk) xs.length (i + 1 : Nat) := by
  have h1 : ((i : Int) < (xs.length : Int)) = True := by simp; omega
  have h2 : IntKind.i64.wrap ((i : Int) + 1) = ((i + 1 : Nat) : Int) := by rw [IntKind.wrap_i64]; omega
  have h3 : idx xs.length (.int .i64 i) = some i := by simp [idx]; omega
  have h4 : cut ((bytesAV xs).drop (i * 1)) 0 none = some (u8v xs[i]) := by simp [cut, bytesAV, u8v, hi]
  refine ⟨_, Eq.trans (b := some (Ex.nrm, ?_, s)) ?_ rfl, ?_⟩
  case refine_2 =>
    simp only [M21b0, E21, evC_seq, evC_reg, evOps_cons, evOps_nil, guardR_none, ev1_mv, ev1_bin, ev1_ixa, ev1_load, ev1_call, evP, loadR, h3, h4, freezeL, opR_some, opd, Env.put, Env.at, seqR_nrm, regR_some, List.set_cons_zero, List.set_cons_succ, List.getD_cons_zero, List.getD_cons_succ, pR_some, evC_block, evC_cond, evC_skip, i64_lss, i64_add, condR_bool, h1, decide_true, boolR_true, blockR_nrm, h2, evC_skip]
    simp only [u16, u8v, Ab.freeze, callR_some]
    rw [show (AV.int .u16 c.toNat) = u16 c from rfl, show (AV.int .u8 (xs[i]).toNat) = u8v xs[i] from rfl, add_ev]
    simp only [wR_some, opR_some, opd, Env.put, Env.at, evOps_cons, evOps_nil, guardR_none, ev1_mv, ev1_bin, seqR_nrm, regR_some, List.set_cons_zero, List.set_cons_succ, List.getD_cons_zero, List.getD_cons_succ, pR_some, blockR_nrm, evC_reg, i64_add, h2]
    rfl
  case refine_3 => rfl
def crcFold (c : BitVec 16) (xs : List UInt8) : BitVec 16 := xs.foldl crcAdd c
theorem crcFold_succ (c : BitVec 16) (xs : List UInt8) (i : Nat) (hi : i < xs.length) : crcFold c (xs.take (i + 1)) = crcAdd (crcFold c (xs.take i)) xs[i] := by
  have h : xs.take (i + 1) = xs.take i ++ [xs[i]] := by simp [List.take_append_getElem]
  rw [h, crcFold, List.foldl_append]; rfl
theorem loop21 (k k' : Nat) (xs : List UInt8) (hk : xs.length < k') (c : BitVec 16) (tk : Option (Nat × Nat × Nat)) (hl : xs.length ≤ 1000000) (s : St) (e : Env) (he : maskE M21b0l e = E21 c (.sl (bytesAV xs) xs.length tk) xs.length 0) :
    iter (evC noGl (ev (k + 20)) k' M21b0) M21b0l k' e s = evC noGl (ev (k + 20)) k' M21b0 (E21 (crcFold c xs) (.sl (bytesAV xs) xs.length tk) xs.length xs.length) s := by
  refine iter_rounds _ _ (fun i e' s' => s' = s ∧ maskE M21b0l e' = E21 (crcFold c (xs.take i)) (.sl (bytesAV xs) xs.length tk) xs.length (i : Nat)) _ xs.length ?_ ?_ xs.length 0 e s k' (by omega) ⟨rfl, he⟩ hk
  · rintro i e' s' hi ⟨rfl, h⟩
    obtain ⟨e2, h1, h2⟩ := round21 k k' (crcFold c (xs.take i)) xs tk i hi hl s'
    exact ⟨e2, s', by rw [h]; exact h1, rfl, by rw [crcFold_succ c xs i hi]; exact h2⟩
  · rintro e' s' ⟨rfl, h⟩
    refine ⟨by rw [h, List.take_length], fun e2 s2 => ?_⟩
    have h1 : ((xs.length : Int) < (xs.length : Int)) = False := by simp
    simp only [M21b0, E21, evC_seq, evC_reg, evOps_cons, evOps_nil, guardR_none, ev1_bin, opR_some, opd, Env.put, Env.at, seqR_nrm, regR_some, List.set_cons_zero, List.set_cons_succ, List.getD_cons_zero, List.getD_cons_succ, pR_some, evC_cond, evC_skip, evC_exit, i64_lss, condR_bool, h1, decide_false]
    simp [boolR, seqR]
theorem b16_not (c : BitVec 16) : unV .xor (u16 c) = some (u16 (~~~c)) := by
  show some (AV.int .u16 (IntKind.u16.wrap ((BitVec.ofInt 16 65535 ^^^ BitVec.ofInt 16 (c.toNat : Int)).toNat : Int))) = _
  rw [ofInt16]
  have : BitVec.ofInt 16 65535 ^^^ c = ~~~c := by
    rw [show BitVec.ofInt 16 65535 = BitVec.allOnes 16 from rfl, BitVec.allOnes_xor]
  rw [this, wrap16 _ (~~~c).isLt]; rfl
theorem lit65535 : (AV.int .u16 65535) = u16 65535#16 := rfl
theorem of_ev (k : Nat) (xs : List UInt8) (tk : Option (Nat × Nat × Nat)) (hk : xs.length < k) (hl : xs.length ≤ 1000000) (s : St) :
    ev (k + 21) 21 [.sl (bytesAV xs) xs.length tk] s = some (u16 (~~~(crcFold 65535#16 xs)), s) := by
  rw [show k + 21 = (k + 20) + 1 from rfl, ev_in rfl tab21]
  have h1 : ((xs.length : Int) < (xs.length : Int)) = False := by simp
  simp only [M21, env0, List.length_cons, List.length_nil, Nat.reduceAdd, Nat.reduceSub, List.replicate, List.cons_append, List.nil_append, evC_seq, evC_reg, evOps_cons, evOps_nil, guardR_none, ev1_mv, ev1_len, evP, opR_some, opd, Env.put, Env.at, seqR_nrm, regR_some, List.set_cons_zero, List.set_cons_succ, List.getD_cons_zero, List.getD_cons_succ, pR_some, evC_block, evC_loop, lit65535]
  rw [loop21 k (k + 20) xs (by omega) 65535#16 tk hl _ _ rfl]
  simp only [M21b0, E21, evC_seq, evC_reg, evOps_cons, evOps_nil, guardR_none, ev1_mv, ev1_bin, ev1_un, b16_not, opR_some, opd, Env.put, Env.at, seqR_nrm, seqR_exit, regR_some, List.set_cons_zero, List.set_cons_succ, List.getD_cons_zero, List.getD_cons_succ, pR_some, evC_block, evC_cond, evC_skip, evC_exit, evC_ret, i64_lss, condR_bool, blockR_exit, h1, decide_false, boolR_false, if_true]
  rfl
end Go.Proofs.Ytghfinbdgnggjaa
