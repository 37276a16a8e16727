/- Regions that draw, in Top's evaluator: what is made ahead hangs on the region. No conditions. -/
import Derived.Test.YtgflghhffmjojaaGreatDoorEv
import Derived.Test.YtgflghhffmjojaaGreatDoorLv
import Derived.Test.YtgflghhffmjojaaGreatDoorHs
set_option linter.unusedSimpArgs false
set_option linter.unusedVariables false
namespace Go.Ab
open Go
def contL (gl : Nat → AV) (call : Calls') (az : AZ) (gl0 : Nat) (d : Option Nat) (is : List MIns) (n : Nat) (e : Env) (s : St) (l : List Rec) : Option (AV × St × Nat) → Option (Env × St × List Rec)
  | some (v, s', k) => evLoud gl call az is n (e.put d v) s' (⟨k, gl0, s, s'⟩ :: l)
  | none => none
def gdL (w : Bool) (gl : Nat → AV) (call : Calls') (az : AZ) (d : Option Nat) (op : MOp) (is : List MIns) (n : Nat) (e : Env) (s : St) (l : List Rec) : AV → Option (Env × St × List Rec)
  | .bool c => if (c == w) = true then contL gl call az (blockOf gl e op) d is n e s l (ev1 gl call e s op) else evLoud gl call az is n (e.put d (.tup [])) s (⟨0, 0, s, s⟩ :: l)
  | .tup [] => evLoud gl call az is n (e.put d (.tup [])) s (⟨0, 0, s, s⟩ :: l)
  | _ => none
section
variable {gl : Nat → AV} {call : Calls'} {d : Option Nat} {op : MOp} {is : List MIns} {n : Nat} {e : Env} {s s' : St} {l : List Rec} {v : AV} {k i : Nat} {w : Bool} {az : AZ} {c : Bool}
theorem evLoud_one (h : az ⟨d, op, none⟩ = none) : evLoud gl call az (⟨d, op, none⟩ :: is) n e s l = contL gl call az (blockOf gl e op) d is n e s l (ev1 gl call e s op) := by
  rw [evLoud_cons _ _ _ _ _ _ _ _ _ h]; simp only [guardR_none]; cases ev1 gl call e s op <;> rfl
theorem contL_some : contL gl call az i d is n e s l (some (v, s', k)) = evLoud gl call az is n (e.put d v) s' (⟨k, i, s, s'⟩ :: l) := (id rfl)
theorem evLoud_gd (hz : az ⟨d, op, some (i, w)⟩ = none) : evLoud gl call az (⟨d, op, some (i, w)⟩ :: is) n e s l = gdL w gl call az d op is n e s l (e.at i) := by
  rw [evLoud_cons _ _ _ _ _ _ _ _ _ hz, guardR_some]
  generalize e.at i = v
  cases v with
  | bool c =>
    simp only [gdL, boolR]
    split
    · cases ev1 gl call e s op <;> rfl
    · rfl
  | tup l => cases l <;> rfl
  | _ => rfl
theorem gdL_tt : gdL true gl call az d op is n e s l (.bool true) = contL gl call az (blockOf gl e op) d is n e s l (ev1 gl call e s op) := (id rfl)
theorem gdL_ft : gdL true gl call az d op is n e s l (.bool false) = evLoud gl call az is n (e.put d (.tup [])) s (⟨0, 0, s, s⟩ :: l) := (id rfl)
theorem gdL_tf : gdL false gl call az d op is n e s l (.bool true) = evLoud gl call az is n (e.put d (.tup [])) s (⟨0, 0, s, s⟩ :: l) := (id rfl)
theorem gdL_ff : gdL false gl call az d op is n e s l (.bool false) = contL gl call az (blockOf gl e op) d is n e s l (ev1 gl call e s op) := (id rfl)
theorem gdL_un : gdL w gl call az d op is n e s l (.tup []) = evLoud gl call az is n (e.put d (.tup [])) s (⟨0, 0, s, s⟩ :: l) := (id rfl)
theorem az_mv (d : Option Nat) (g : Option (Nat × Bool)) {x} : allocZ gl e is ⟨d, .mv x, g⟩ = none := (id rfl)
theorem az_pick (d : Option Nat) (g : Option (Nat × Bool)) {c a b} : allocZ gl e is ⟨d, .pick c a b, g⟩ = none := (id rfl)
theorem az_bin (d : Option Nat) (g : Option (Nat × Bool)) {o x y} : allocZ gl e is ⟨d, .bin o x y, g⟩ = none := (id rfl)
theorem az_eqv (d : Option Nat) (g : Option (Nat × Bool)) {n q x y} : allocZ gl e is ⟨d, .eqv n q x y, g⟩ = none := (id rfl)
theorem az_un (d : Option Nat) (g : Option (Nat × Bool)) {o x} : allocZ gl e is ⟨d, .un o x, g⟩ = none := (id rfl)
theorem az_conv (d : Option Nat) (g : Option (Nat × Bool)) {c x} : allocZ gl e is ⟨d, .conv c x, g⟩ = none := (id rfl)
theorem az_mki (d : Option Nat) (g : Option (Nat × Bool)) {t x} : allocZ gl e is ⟨d, .mki t x, g⟩ = none := (id rfl)
theorem az_slc (d : Option Nat) (g : Option (Nat × Bool)) {n x lo hi} : allocZ gl e is ⟨d, .slc n x lo hi, g⟩ = none := (id rfl)
theorem az_sls (d : Option Nat) (g : Option (Nat × Bool)) {x lo hi} : allocZ gl e is ⟨d, .sls x lo hi, g⟩ = none := (id rfl)
theorem az_lens (d : Option Nat) (g : Option (Nat × Bool)) {x} : allocZ gl e is ⟨d, .lens x, g⟩ = none := (id rfl)
theorem az_ixs (d : Option Nat) (g : Option (Nat × Bool)) {x i} : allocZ gl e is ⟨d, .ixs x i, g⟩ = none := (id rfl)
theorem az_fa (d : Option Nat) (g : Option (Nat × Bool)) {o x} : allocZ gl e is ⟨d, .fa o x, g⟩ = none := (id rfl)
theorem az_fld (d : Option Nat) (g : Option (Nat × Bool)) {o n x} : allocZ gl e is ⟨d, .fld o n x, g⟩ = none := (id rfl)
theorem az_ixa (d : Option Nat) (g : Option (Nat × Bool)) {n x i} : allocZ gl e is ⟨d, .ixa n x i, g⟩ = none := (id rfl)
theorem az_ixp (d : Option Nat) (g : Option (Nat × Bool)) {l n x i} : allocZ gl e is ⟨d, .ixp l n x i, g⟩ = none := (id rfl)
theorem az_ix (d : Option Nat) (g : Option (Nat × Bool)) {l n b x i} : allocZ gl e is ⟨d, .ix l n b x i, g⟩ = none := (id rfl)
theorem az_load (d : Option Nat) (g : Option (Nat × Bool)) {n x} : allocZ gl e is ⟨d, .load n x, g⟩ = none := (id rfl)
theorem az_store (d : Option Nat) (g : Option (Nat × Bool)) {n x v} : allocZ gl e is ⟨d, .store n x v, g⟩ = none := (id rfl)
theorem az_nchk (d : Option Nat) (g : Option (Nat × Bool)) {x} : allocZ gl e is ⟨d, .nchk x, g⟩ = none := (id rfl)
theorem az_tas (d : Option Nat) (g : Option (Nat × Bool)) {t z o x} : allocZ gl e is ⟨d, .tas t z o x, g⟩ = none := (id rfl)
theorem az_ext (d : Option Nat) (g : Option (Nat × Bool)) {i x} : allocZ gl e is ⟨d, .ext i x, g⟩ = none := (id rfl)
theorem az_call (d : Option Nat) (g : Option (Nat × Bool)) {f a} : allocZ gl e is ⟨d, .call f a, g⟩ = none := (id rfl)
theorem az_len (d : Option Nat) (g : Option (Nat × Bool)) {x} : allocZ gl e is ⟨d, .len x, g⟩ = none := (id rfl)
theorem az_mn (d : Option Nat) (g : Option (Nat × Bool)) {l} : allocZ gl e is ⟨d, .mn l, g⟩ = none := (id rfl)
theorem az_mx (d : Option Nat) (g : Option (Nat × Bool)) {l} : allocZ gl e is ⟨d, .mx l, g⟩ = none := (id rfl)
theorem az_app (d : Option Nat) (g : Option (Nat × Bool)) {h n b x y} : allocZ gl e is ⟨d, .app h n b x y, g⟩ = none := (id rfl)
theorem az_build (d : Option Nat) (g : Option (Nat × Bool)) {z p} : allocZ gl e is ⟨d, .build z p, g⟩ = none := (id rfl)
theorem az_bsl (d : Option Nat) (g : Option (Nat × Bool)) {h n l z p} : allocZ gl e is ⟨d, .bsl h n l z p, g⟩ = none := (id rfl)
theorem az_box (d : Option Nat) (g : Option (Nat × Bool)) {x} : allocZ gl e is ⟨d, .box x, g⟩ = none := (id rfl)
theorem az_mks (d : Option Nat) (g : Nat × Bool) {n b z l c} : allocZ gl e is ⟨d, .mks n b z l c, some g⟩ = none := (id rfl)
theorem az_cpy (d : Option Nat) (g : Option (Nat × Bool)) {n x y} : allocZ gl e is ⟨d, .cpy n x y, g⟩ = none := (id rfl)
theorem az_rng (d : Option Nat) (g : Option (Nat × Bool)) {x} : allocZ gl e is ⟨d, .rng x, g⟩ = none := (id rfl)
theorem az_nxt (d : Option Nat) (g : Option (Nat × Bool)) {x} : allocZ gl e is ⟨d, .nxt x, g⟩ = none := (id rfl)
theorem reserve_nil (az : AZ) (s : St) : reserve az [] s = s := (id rfl)
theorem reserve_none (az : AZ) (i : MIns) (is : List MIns) (s : St) (h : az i = none) : reserve az (i :: is) s = reserve az is s := by simp only [reserve, h]
theorem reserve_gd (e0 : Env) (is0 : List MIns) (d : Option Nat) (o : MOp) (g : Nat × Bool) (is : List MIns) (s : St) : reserve (allocZ gl e0 is0) (⟨d, o, some g⟩ :: is) s = reserve (allocZ gl e0 is0) is s := reserve_none _ _ _ _ (by unfold allocZ; split <;> simp_all)
theorem reserve_alloc (e0 : Env) (is0 : List MIns) (d : Option Nat) (z : List AV) (is : List MIns) (s : St) : reserve (allocZ gl e0 is0) (⟨d, .alloc z, none⟩ :: is) s = reserve (allocZ gl e0 is0) is (s.new (.cells 0 z)) := (id rfl)
theorem drawR_ok (bf : List Nat) (e : Env) (s : St) (l : List Rec) (h : calm bf l = true) : drawR bf (some (e, s, l)) = some (.nrm, e, s) := by simp only [drawR, h, if_true]
end
end Go.Ab
set_option linter.unusedSimpArgs false
set_option linter.unusedVariables false
set_option maxRecDepth 100000
set_option maxHeartbeats 4000000
namespace Go.Proofs.YtgflghhffmjojaaGreatDoor.wr
open Go Go.Ab
def rnd (c : BitVec 16) : BitVec 16 := if (c &&& 1#16) == 1#16 then (c >>> 1) ^^^ 33800#16 else c >>> 1
theorem lit1 : (AV.int .u16 1) = u16 1#16 := rfl
theorem lit33800 : (AV.int .u16 33800) = u16 33800#16 := rfl
def E23 (c : BitVec 16) (i : Int) : Env := [u16 c, .undef, .undef, .undef, .undef, .undef, .undef, .undef, .undef, .undef, .int .i64 i, .undef, .undef, .undef, .undef, .undef, .undef, .undef, .undef, .undef, .undef, .undef]
set_option maxHeartbeats 1000000 in
theorem round23 (call : Calls') (k : Nat) (c : BitVec 16) (i : Nat) (hi : i < 8) (s : St) :
    ∃ e', evC tabGl call k M200b0 (E23 c i) s = some (.nrm, e', s) ∧ maskE M200b0l e' = E23 (rnd c) (i + 1 : Nat) := by
  have h1 : ((i : Int) < 8) = True := by simp; omega
  have h2 : IntKind.i64.wrap ((i : Int) + 1) = ((i + 1 : Nat) : Int) := by rw [IntKind.wrap_i64]; omega
  unfold rnd
  cases hb : (c &&& 1#16) == 1#16 with
  | true =>
    refine ⟨_, Eq.trans (b := some (Ex.nrm, ?_, s)) ?_ rfl, ?_⟩
    case refine_2 =>
      simp only [M200b0, M200r0, E23, evC_seq, evC_reg, evOps_cons, evOps_nil, guardR_none, ev1_mv, ev1_bin, opR_some, opd, Env.put, Env.at, seqR_nrm, regR_some, List.set_cons_zero, List.set_cons_succ, List.getD_cons_zero, List.getD_cons_succ, pR_some, evC_block, evC_cond, evC_skip, lit1, lit33800, b16_and, b16_shr1, b16_eql, b16_xor, i64_lss, i64_add, condR_bool, h1, decide_true, boolR_true, boolR_false, hb, blockR_nrm, h2, evC_skip]
      rfl
    case refine_3 => rfl
  | false =>
    refine ⟨_, Eq.trans (b := some (Ex.nrm, ?_, s)) ?_ rfl, ?_⟩
    case refine_2 =>
      simp only [M200b0, M200r0, E23, evC_seq, evC_reg, evOps_cons, evOps_nil, guardR_none, ev1_mv, ev1_bin, opR_some, opd, Env.put, Env.at, seqR_nrm, regR_some, List.set_cons_zero, List.set_cons_succ, List.getD_cons_zero, List.getD_cons_succ, pR_some, evC_block, evC_cond, evC_skip, lit1, lit33800, b16_and, b16_shr1, b16_eql, b16_xor, i64_lss, i64_add, condR_bool, h1, decide_true, boolR_true, boolR_false, hb, blockR_nrm, h2, evC_skip]
      rfl
    case refine_3 => rfl
def rnI : Nat → BitVec 16 → BitVec 16
  | 0, c => c
  | n + 1, c => rnd (rnI n c)
theorem loop23 (call : Calls') (k : Nat) (hk : 8 < k) (c : BitVec 16) (s : St) (e : Env) (he : maskE M200b0l e = E23 c 0) :
    iter (evC tabGl call k M200b0) M200b0l k e s = evC tabGl call k M200b0 (E23 (rnI 8 c) 8) s := by
  refine iter_rounds _ _ (fun i e' s' => s' = s ∧ maskE M200b0l e' = E23 (rnI i c) (i : Nat)) _ 8 ?_ ?_ 8 0 e s k rfl ⟨rfl, he⟩ hk
  · rintro i e' s' hi ⟨rfl, h⟩
    obtain ⟨e2, h1, h2⟩ := round23 call k (rnI i c) i hi s'
    exact ⟨e2, s', by rw [h]; exact h1, rfl, h2⟩
  · rintro e' s' ⟨rfl, h⟩
    refine ⟨by rw [h]; rfl, fun e2 s2 => ?_⟩
    simp only [M200b0, M200r0, E23, evC_seq, evC_reg, evOps_cons, evOps_nil, guardR_none, ev1_bin, opR_some, opd, Env.put, Env.at, seqR_nrm, regR_some, List.set_cons_zero, List.set_cons_succ, List.getD_cons_zero, List.getD_cons_succ, pR_some, evC_cond, evC_skip, evC_exit, i64_lss, condR_bool]
    simp [boolR, seqR]
theorem add_ev (k : Nat) (c : BitVec 16) (b : UInt8) (s : St) : ev2 (k + 20) 200 [u16 c, u8v b] s = some (u16 (rnI 8 (c ^^^ b.toBitVec.setWidth 16)), s) := by
  rw [show k + 20 = (k + 19) + 1 from rfl, ev2_in rfl tab200]
  simp only [M200, env0, List.length_cons, List.length_nil, Nat.reduceAdd, Nat.reduceSub, List.replicate, List.cons_append, List.nil_append, evC_seq, evC_reg, evOps_cons, evOps_nil, guardR_none, ev1_mv, ev1_bin, ev1_conv, opR_some, opd, Env.put, Env.at, seqR_nrm, regR_some, List.set_cons_zero, List.set_cons_succ, List.getD_cons_zero, List.getD_cons_succ, pR_some, evC_block, evC_loop, b16_of_u8, b16_xor]
  rw [loop23 _ _ (by omega) (c ^^^ b.toBitVec.setWidth 16) _ _ rfl]
  simp only [M200b0, M200r0, E23, evC_seq, evC_reg, evOps_cons, evOps_nil, guardR_none, ev1_mv, ev1_bin, opR_some, opd, Env.put, Env.at, seqR_nrm, seqR_exit, regR_some, List.set_cons_zero, List.set_cons_succ, List.getD_cons_zero, List.getD_cons_succ, pR_some, evC_block, evC_cond, evC_skip, evC_exit, evC_ret, i64_lss, condR_bool, blockR_exit]
  rfl
end Go.Proofs.YtgflghhffmjojaaGreatDoor.wr
namespace Go.Proofs.YtgflghhffmjojaaGreatDoor.wr
open Go Go.Ab
def crcAdd (c : BitVec 16) (x : UInt8) : BitVec 16 := rnI 8 (c ^^^ x.toBitVec.setWidth 16)
def E21 (c : BitVec 16) (x : AV) (n i : Int) : Env := [.undef, .undef, .undef, u16 c, .undef, .undef, x, .int .i64 n, .int .i64 i, .undef, .undef, .undef, .undef, .undef, .undef, .undef, .undef, .undef]
theorem round21 (k k' : Nat) (c : BitVec 16) (xs : List UInt8) (tk : Option (Nat × Nat × Nat)) (i : Nat) (hi : i < xs.length) (hl : xs.length ≤ 1000000) (s : St) :
    ∃ e', evC tabGl (ev2 (k + 20)) k' M161b0 (E21 c (.sl (bytesAV xs) xs.length tk) xs.length i) s = some (.nrm, e', s) ∧ maskE M161b0l e' = E21 (crcAdd c xs[i]) (.sl (bytesAV xs) xs.length tk) xs.length (i + 1 : Nat) := by
  have h1 : ((i : Int) < (xs.length : Int)) = True := by simp; omega
  have h2 : IntKind.i64.wrap ((i : Int) + 1) = ((i + 1 : Nat) : Int) := by rw [IntKind.wrap_i64]; omega
  have h3 : idx xs.length (.int .i64 i) = some i := by simp [idx]; omega
  have h4 : cut ((bytesAV xs).drop (i * 1)) 0 none = some (u8v xs[i]) := by simp [cut, bytesAV, u8v, hi]
  refine ⟨_, Eq.trans (b := some (Ex.nrm, ?_, s)) ?_ rfl, ?_⟩
  case refine_2 =>
    simp only [M161b0, M161r0, E21, evC_seq, evC_reg, evOps_cons, evOps_nil, guardR_none, ev1_mv, ev1_bin, ev1_ixa, ev1_load, ev1_call, evP, loadR, h3, h4, freezeL, opR_some, opd, Env.put, Env.at, seqR_nrm, regR_some, List.set_cons_zero, List.set_cons_succ, List.getD_cons_zero, List.getD_cons_succ, pR_some, evC_block, evC_cond, evC_skip, i64_lss, i64_add, condR_bool, h1, decide_true, boolR_true, blockR_nrm, h2, evC_skip]
    simp only [u16, u8v, Ab.freeze, callR_some]
    rw [show (AV.int .u16 c.toNat) = u16 c from rfl, show (AV.int .u8 (xs[i]).toNat) = u8v xs[i] from rfl, add_ev]
    simp only [wR_some, opR_some, opd, Env.put, Env.at, evOps_cons, evOps_nil, guardR_none, ev1_mv, ev1_bin, seqR_nrm, regR_some, List.set_cons_zero, List.set_cons_succ, List.getD_cons_zero, List.getD_cons_succ, pR_some, blockR_nrm, evC_reg, i64_add, h2]
    rfl
  case refine_3 => rfl
def crcFold (c : BitVec 16) (xs : List UInt8) : BitVec 16 := xs.foldl crcAdd c
theorem crcFold_succ (c : BitVec 16) (xs : List UInt8) (i : Nat) (hi : i < xs.length) : crcFold c (xs.take (i + 1)) = crcAdd (crcFold c (xs.take i)) xs[i] := by
  have h : xs.take (i + 1) = xs.take i ++ [xs[i]] := by simp [List.take_append_getElem]
  rw [h, crcFold, List.foldl_append]; rfl
theorem loop21 (k k' : Nat) (xs : List UInt8) (hk : xs.length < k') (c : BitVec 16) (tk : Option (Nat × Nat × Nat)) (hl : xs.length ≤ 1000000) (s : St) (e : Env) (he : maskE M161b0l e = E21 c (.sl (bytesAV xs) xs.length tk) xs.length 0) :
    iter (evC tabGl (ev2 (k + 20)) k' M161b0) M161b0l k' e s = evC tabGl (ev2 (k + 20)) k' M161b0 (E21 (crcFold c xs) (.sl (bytesAV xs) xs.length tk) xs.length xs.length) s := by
  refine iter_rounds _ _ (fun i e' s' => s' = s ∧ maskE M161b0l e' = E21 (crcFold c (xs.take i)) (.sl (bytesAV xs) xs.length tk) xs.length (i : Nat)) _ xs.length ?_ ?_ xs.length 0 e s k' (by omega) ⟨rfl, he⟩ hk
  · rintro i e' s' hi ⟨rfl, h⟩
    obtain ⟨e2, h1, h2⟩ := round21 k k' (crcFold c (xs.take i)) xs tk i hi hl s'
    exact ⟨e2, s', by rw [h]; exact h1, rfl, by rw [crcFold_succ c xs i hi]; exact h2⟩
  · rintro e' s' ⟨rfl, h⟩
    refine ⟨by rw [h, List.take_length], fun e2 s2 => ?_⟩
    have h1 : ((xs.length : Int) < (xs.length : Int)) = False := by simp
    simp only [M161b0, M161r0, E21, evC_seq, evC_reg, evOps_cons, evOps_nil, guardR_none, ev1_bin, opR_some, opd, Env.put, Env.at, seqR_nrm, regR_some, List.set_cons_zero, List.set_cons_succ, List.getD_cons_zero, List.getD_cons_succ, pR_some, evC_cond, evC_skip, evC_exit, i64_lss, condR_bool, h1, decide_false]
    simp [boolR, seqR]
theorem b16_not (c : BitVec 16) : unV .xor (u16 c) = some (u16 (~~~c)) := by
  show some (AV.int .u16 (IntKind.u16.wrap ((BitVec.ofInt 16 65535 ^^^ BitVec.ofInt 16 (c.toNat : Int)).toNat : Int))) = _
  rw [ofInt16]
  have : BitVec.ofInt 16 65535 ^^^ c = ~~~c := by
    rw [show BitVec.ofInt 16 65535 = BitVec.allOnes 16 from rfl, BitVec.allOnes_xor]
  rw [this, wrap16 _ (~~~c).isLt]; rfl
theorem lit65535 : (AV.int .u16 65535) = u16 65535#16 := rfl
theorem of_ev (k : Nat) (xs : List UInt8) (tk : Option (Nat × Nat × Nat)) (hk : xs.length < k) (hl : xs.length ≤ 1000000) (s : St) :
    ev2 (k + 21) 161 [.sl (bytesAV xs) xs.length tk] s = some (u16 (~~~(crcFold 65535#16 xs)), s) := by
  rw [show k + 21 = (k + 20) + 1 from rfl, ev2_in rfl tab161]
  have h1 : ((xs.length : Int) < (xs.length : Int)) = False := by simp
  simp only [M161, env0, List.length_cons, List.length_nil, Nat.reduceAdd, Nat.reduceSub, List.replicate, List.cons_append, List.nil_append, evC_seq, evC_reg, evOps_cons, evOps_nil, guardR_none, ev1_mv, ev1_len, evP, opR_some, opd, Env.put, Env.at, seqR_nrm, regR_some, List.set_cons_zero, List.set_cons_succ, List.getD_cons_zero, List.getD_cons_succ, pR_some, evC_block, evC_loop, lit65535]
  rw [loop21 k (k + 20) xs (by omega) 65535#16 tk hl _ _ rfl]
  simp only [M161b0, M161r0, E21, evC_seq, evC_reg, evOps_cons, evOps_nil, guardR_none, ev1_mv, ev1_bin, ev1_un, b16_not, opR_some, opd, Env.put, Env.at, seqR_nrm, seqR_exit, regR_some, List.set_cons_zero, List.set_cons_succ, List.getD_cons_zero, List.getD_cons_succ, pR_some, evC_block, evC_cond, evC_skip, evC_exit, evC_ret, i64_lss, condR_bool, blockR_exit, h1, decide_false, boolR_false, if_true]
  rfl
end Go.Proofs.YtgflghhffmjojaaGreatDoor.wr
namespace Go.Proofs.YtgflghhffmjojaaGreatDoor.wr
open Go Go.Ab
/-- crc.Of, of any bytes. -/
theorem ofB {x : AV} {xs : List UInt8} (hx : Bys x xs) (k : Nat) (hk : xs.length < k) (hl : xs.length ≤ 1000000) (s : St) : ev2 (k + 21) 161 [x] s = some (u16 (~~~(crcFold 65535#16 xs)), s) := by
  rcases hx with ⟨rfl, rfl⟩ | ⟨tk, rfl⟩
  · rw [show k + 21 = (k + 20) + 1 from rfl, ev2_in rfl tab161]
    simp only [M161, lenV, lit65535, evC_loop, env0, List.length_cons, List.length_nil, Nat.reduceAdd, Nat.reduceSub, List.replicate, List.cons_append, List.nil_append, evC_seq, evC_reg, evC_skip, evC_exit, evC_ret, evC_block, evC_condX, condX_true, condX_false, evOps_nil, evOps_one, contR_some, evOps_gd, gdR_tt, gdR_ft, gdR_tf, gdR_ff, gdR_un, bq_true, bq_false, ev1_mv, ev1_pick, ev1_bin, ev1_eqv, ev1_un, un_not, ev1_mki, ev1_slc, ev1_lenV, ev1_ixaV, ev1_appV, ev1_load, ev1_call, ev1_mn, ev1_mx, ev1_conv, ev1_alloc, ev1_storeV, ev1_bslR, bslR_sl, bslR_hs, fill_nil, fill_cons, fill1_u8a, fill1_u8b, fill1_ca, fill1_cb, thenO_some, loadR_rp, opd, Env.put, Env.at, seqR_nrm, seqR_exit, seqR_ret, regR_some, List.set_cons_zero, List.set_cons_succ, List.getD_cons_zero, List.getD_cons_succ, pR_some, wR_some, callR_some, freezeL, freeze_int, freeze_bool, freeze_str, freeze_u16, freeze_u8, freeze_ptr, freeze_nils, boolR_true, boolR_false, blockR_nrm, blockR_exit, blockR_ret, outR_ret, outR_nrm, resVs, resV_tmp, oneOr, Option.map_some, Option.map_none, List.map_cons, List.map_nil, if_true, if_false, Bool.not_true, Bool.not_false, Bool.false_eq_true, reduceIte, decide_true, decide_false, i64_lss, i64_leq, i64_gtr, i64_geq, i64_eql, i64_neq, i64_add, i64_sub]
    obtain ⟨k, rfl⟩ : ∃ m, k = m + 1 := ⟨k - 1, by simp at hk; omega⟩
    rw [show k + 1 + 20 = (k + 20) + 1 from rfl, iter_succ]
    simp only [M161b0, M161r0, M161b0l, maskE, Int.lt_irrefl, b16_not, env0, List.length_cons, List.length_nil, Nat.reduceAdd, Nat.reduceSub, List.replicate, List.cons_append, List.nil_append, evC_seq, evC_reg, evC_skip, evC_exit, evC_ret, evC_block, evC_condX, condX_true, condX_false, evOps_nil, evOps_one, contR_some, evOps_gd, gdR_tt, gdR_ft, gdR_tf, gdR_ff, gdR_un, bq_true, bq_false, ev1_mv, ev1_pick, ev1_bin, ev1_eqv, ev1_un, un_not, ev1_mki, ev1_slc, ev1_lenV, ev1_ixaV, ev1_appV, ev1_load, ev1_call, ev1_mn, ev1_mx, ev1_conv, ev1_alloc, ev1_storeV, ev1_bslR, bslR_sl, bslR_hs, fill_nil, fill_cons, fill1_u8a, fill1_u8b, fill1_ca, fill1_cb, thenO_some, loadR_rp, opd, Env.put, Env.at, seqR_nrm, seqR_exit, seqR_ret, regR_some, List.set_cons_zero, List.set_cons_succ, List.getD_cons_zero, List.getD_cons_succ, pR_some, wR_some, callR_some, freezeL, freeze_int, freeze_bool, freeze_str, freeze_u16, freeze_u8, freeze_ptr, freeze_nils, boolR_true, boolR_false, blockR_nrm, blockR_exit, blockR_ret, outR_ret, outR_nrm, resVs, resV_tmp, oneOr, Option.map_some, Option.map_none, List.map_cons, List.map_nil, if_true, if_false, Bool.not_true, Bool.not_false, Bool.false_eq_true, reduceIte, decide_true, decide_false, i64_lss, i64_leq, i64_gtr, i64_geq, i64_eql, i64_neq, i64_add, i64_sub]
    rfl
  · exact of_ev k xs tk hk hl s
end Go.Proofs.YtgflghhffmjojaaGreatDoor.wr
namespace Go.Proofs.YtgflghhffmjojaaGreatDoor.wr
open Go Go.Ab
def crcOf (xs : List UInt8) : BitVec 16 := ~~~(crcFold 65535#16 xs)
def crcPut (xs : List UInt8) : List UInt8 := xs ++ [UInt8.ofBitVec ((crcOf xs).setWidth 8), UInt8.ofBitVec (((crcOf xs) >>> 8).setWidth 8)]
theorem crcPut_length (xs : List UInt8) : (crcPut xs).length = xs.length + 2 := by simp [crcPut]
theorem b16_to_u8 (c : BitVec 16) : convP (.toInt .u8) (u16 c) = some (u8v (UInt8.ofBitVec (c.setWidth 8))) := by
  simp only [convP, u8v, u16]
  have : IntKind.u8.wrap (c.toNat : Int) = ((c.toNat % 256 : Nat) : Int) := by
    simp only [IntKind.wrap, IntKind.bits, IntKind.signed]; simp
  rw [this]; simp
theorem b16_shr8 (c : BitVec 16) : binV .shr (u16 c) (.int .u64 8) = some (u16 (c >>> 8)) := by
  show some (AV.int .u16 ((c.toNat : Int).fdiv 256)) = _
  rw [Int.fdiv_eq_ediv_of_nonneg _ (by omega)]
  simp only [u16]
  rw [BitVec.toNat_ushiftRight, Nat.shiftRight_eq_div_pow]
  rfl
theorem clone_ev {x : AV} {xs : List UInt8} (hx : Bys x xs) (hl : xs.length ≤ 1000000) (k : Nat) (s : St) :
    ∃ y s', ev2 (k + 1) 98 [x] s = some (y, s') ∧ Own s s' y xs ∧ Ext s s' := by
  rcases hx with ⟨rfl, rfl⟩ | ⟨tk, rfl⟩
  · refine ⟨.nils, s, ?_, Own.nil _ _, Ext.refl s⟩
    rw [ev2_in rfl tab98]
    simp only [M98, eqAV, env0, List.length_cons, List.length_nil, Nat.reduceAdd, Nat.reduceSub, List.replicate, List.cons_append, List.nil_append, evC_seq, evC_reg, evC_skip, evC_exit, evC_ret, evC_block, evC_condX, condX_true, condX_false, evOps_nil, evOps_one, contR_some, evOps_gd, gdR_tt, gdR_ft, gdR_tf, gdR_ff, gdR_un, bq_true, bq_false, ev1_mv, ev1_pick, ev1_bin, ev1_eqv, ev1_un, un_not, ev1_mki, ev1_slc, ev1_lenV, ev1_ixaV, ev1_appV, ev1_load, ev1_call, ev1_mn, ev1_mx, ev1_conv, ev1_alloc, ev1_storeV, ev1_bslR, bslR_sl, bslR_hs, fill_nil, fill_cons, fill1_u8a, fill1_u8b, fill1_ca, fill1_cb, thenO_some, loadR_rp, opd, Env.put, Env.at, seqR_nrm, seqR_exit, seqR_ret, regR_some, List.set_cons_zero, List.set_cons_succ, List.getD_cons_zero, List.getD_cons_succ, pR_some, wR_some, callR_some, freezeL, freeze_int, freeze_bool, freeze_str, freeze_u16, freeze_u8, freeze_ptr, freeze_nils, boolR_true, boolR_false, blockR_nrm, blockR_exit, blockR_ret, outR_ret, outR_nrm, resVs, resV_tmp, oneOr, Option.map_some, Option.map_none, List.map_cons, List.map_nil, if_true, if_false, Bool.not_true, Bool.not_false, Bool.false_eq_true, reduceIte, decide_true, decide_false, i64_lss, i64_leq, i64_gtr, i64_geq, i64_eql, i64_neq, i64_add, i64_sub]
  · have h0 := Own.mk s s (Ext.refl s) [] [] rfl 0 rfl
    obtain ⟨y, s', h1, h2, h3⟩ := h0.app (Bys.mk xs tk) ((Ext.refl s).new _) (by simp; omega)
    refine ⟨y, s', ?_, by simpa using h2, h3⟩
    rw [ev2_in rfl tab98]
    simp only [M98, eqAV, h1, h2.bys.freeze, env0, List.length_cons, List.length_nil, Nat.reduceAdd, Nat.reduceSub, List.replicate, List.cons_append, List.nil_append, evC_seq, evC_reg, evC_skip, evC_exit, evC_ret, evC_block, evC_condX, condX_true, condX_false, evOps_nil, evOps_one, contR_some, evOps_gd, gdR_tt, gdR_ft, gdR_tf, gdR_ff, gdR_un, bq_true, bq_false, ev1_mv, ev1_pick, ev1_bin, ev1_eqv, ev1_un, un_not, ev1_mki, ev1_slc, ev1_lenV, ev1_ixaV, ev1_appV, ev1_load, ev1_call, ev1_mn, ev1_mx, ev1_conv, ev1_alloc, ev1_storeV, ev1_bslR, bslR_sl, bslR_hs, fill_nil, fill_cons, fill1_u8a, fill1_u8b, fill1_ca, fill1_cb, thenO_some, loadR_rp, opd, Env.put, Env.at, seqR_nrm, seqR_exit, seqR_ret, regR_some, List.set_cons_zero, List.set_cons_succ, List.getD_cons_zero, List.getD_cons_succ, pR_some, wR_some, callR_some, freezeL, freeze_int, freeze_bool, freeze_str, freeze_u16, freeze_u8, freeze_ptr, freeze_nils, boolR_true, boolR_false, blockR_nrm, blockR_exit, blockR_ret, outR_ret, outR_nrm, resVs, resV_tmp, oneOr, Option.map_some, Option.map_none, List.map_cons, List.map_nil, if_true, if_false, Bool.not_true, Bool.not_false, Bool.false_eq_true, reduceIte, decide_true, decide_false, i64_lss, i64_leq, i64_gtr, i64_geq, i64_eql, i64_neq, i64_add, i64_sub]
theorem put_ev {x : AV} {xs : List UInt8} (hx : Bys x xs) (k : Nat) (hk : xs.length < k) (hl : xs.length ≤ 1000000) (s : St) :
    ∃ y s', ev2 (k + 30) 129 [x] s = some (y, s') ∧ Own s s' y (crcPut xs) ∧ Ext s s' := by
  have ho : ∀ s, ev2 (k + 29) 161 [x] s = some (u16 (crcOf xs), s) := fun s => ofB hx (k + 8) (by omega) hl s
  obtain ⟨y, s1, h1, h2, h3⟩ : ∃ y s', ev2 (k + 29) 98 [x] s = some (y, s') ∧ Own s s' y xs ∧ Ext s s' := clone_ev hx hl (k + 28) s
  obtain ⟨z, s2, g1, g2, g3⟩ := (h2.ext ((Ext.refl s1).new (.tick 1 0))).app (Own.mk s s1 h3 [UInt8.ofBitVec ((crcOf xs).setWidth 8), UInt8.ofBitVec (((crcOf xs) >>> 8).setWidth 8)] [u8v (UInt8.ofBitVec ((crcOf xs).setWidth 8)), u8v (UInt8.ofBitVec (((crcOf xs) >>> 8).setWidth 8))] rfl 2 rfl).bys (h3.new _) (by simp; omega)
  refine ⟨z, s2, ?_, g2, g3⟩
  rw [show k + 30 = (k + 29) + 1 from rfl, ev2_in rfl tab129]
  simp only [M129, hx.freeze, ho, h1, b16_shr8, b16_to_u8, g1, g2.bys.freeze, env0, List.length_cons, List.length_nil, Nat.reduceAdd, Nat.reduceSub, List.replicate, List.cons_append, List.nil_append, evC_seq, evC_reg, evC_skip, evC_exit, evC_ret, evC_block, evC_condX, condX_true, condX_false, evOps_nil, evOps_one, contR_some, evOps_gd, gdR_tt, gdR_ft, gdR_tf, gdR_ff, gdR_un, bq_true, bq_false, ev1_mv, ev1_pick, ev1_bin, ev1_eqv, ev1_un, un_not, ev1_mki, ev1_slc, ev1_lenV, ev1_ixaV, ev1_appV, ev1_load, ev1_call, ev1_mn, ev1_mx, ev1_conv, ev1_alloc, ev1_storeV, ev1_bslR, bslR_sl, bslR_hs, fill_nil, fill_cons, fill1_u8a, fill1_u8b, fill1_ca, fill1_cb, thenO_some, loadR_rp, opd, Env.put, Env.at, seqR_nrm, seqR_exit, seqR_ret, regR_some, List.set_cons_zero, List.set_cons_succ, List.getD_cons_zero, List.getD_cons_succ, pR_some, wR_some, callR_some, freezeL, freeze_int, freeze_bool, freeze_str, freeze_u16, freeze_u8, freeze_ptr, freeze_nils, boolR_true, boolR_false, blockR_nrm, blockR_exit, blockR_ret, outR_ret, outR_nrm, resVs, resV_tmp, oneOr, Option.map_some, Option.map_none, List.map_cons, List.map_nil, if_true, if_false, Bool.not_true, Bool.not_false, Bool.false_eq_true, reduceIte, decide_true, decide_false, i64_lss, i64_leq, i64_gtr, i64_geq, i64_eql, i64_neq, i64_add, i64_sub]
end Go.Proofs.YtgflghhffmjojaaGreatDoor.wr
namespace Go.Ab
open Go
theorem u64_gtr (a b : Int) : binV .gtr (.int .u64 a) (.int .u64 b) = some (.bool (decide (a > b))) := rfl
theorem conv_u64 (n : Nat) (h : n ≤ 1000000000) (k : IntKind) : convP (.toInt .u64) (.int k (n : Int)) = some (.int .u64 (n : Int)) := by
  have : IntKind.u64.wrap (n : Int) = (n : Int) := by
    simp only [IntKind.wrap, IntKind.bits, IntKind.signed]; simp; omega
  simp only [convP, this]
theorem conv_i64 (n : Nat) (h : n ≤ 1000000000) (k : IntKind) : convP (.toInt .i64) (.int k (n : Int)) = some (.int .i64 (n : Int)) := by
  simp only [convP, wrapI (n : Int) (by omega) (by omega)]
theorem zeros (n : Nat) : ((List.replicate n [AV.int .u8 0]).flatten) = bytesAV (List.replicate n 0) := by
  induction n with
  | zero => rfl
  | succ n ih => rw [List.replicate_succ, List.flatten_cons, ih]; simp [bytesAV, List.replicate_succ]
def mksV (size bytes : Nat) (zs : List AV) (s : St) (l c : AV) : Option (AV × St) :=
  match l, c with
  | .int .i64 l, .int .i64 c => if l = c ∧ 0 ≤ l ∧ fits l.toNat bytes = true then
        some (.hs size s.next 0 l.toNat, s.new (.cells size ((List.replicate l.toNat zs).flatten))) else none
  | _, _ => none
theorem ev1_mksV (gl : Nat → AV) (call : Calls') (e : Env) (s : St) (m b : Nat) (z : List AV) (l c : Opd) : ev1 gl call e s (.mks m b z l c) = wR (mksV m b z s (opd gl e l) (opd gl e c)) := by
  rw [ev1_mks]; rfl
theorem mks_n (s : St) (n : Nat) (h : n ≤ 1000000000) : mksV 1 1 [.int .u8 0] s (.int .i64 (n : Int)) (.int .i64 (n : Int)) = some (.hs 1 s.next 0 n, s.new (.cells 1 (bytesAV (List.replicate n 0)))) := by
  simp only [mksV, Int.toNat_natCast, zeros]
  rw [if_pos ⟨trivial, by omega, fits_small h⟩]
def cpyV (size : Nat) (s : St) (x y : AV) : Option (AV × St) :=
  match x with
  | .hs _ b o n => match newsOf size s y, s.get b with
    | some (news, m), some (.cells z cs) => if z = size then match storeL cs o (news.take (min m n * size)) with
      | some cs' => some (.int .i64 (min m n : Nat), s.upd b (.cells z cs'))
      | none => none else none
    | _, _ => none
  | _ => none
theorem ev1_cpyV (gl : Nat → AV) (call : Calls') (e : Env) (s : St) (n : Nat) (x y : Opd) : ev1 gl call e s (.cpy n x y) = wR (cpyV n s (opd gl e x) (opd gl e y)) := by
  rw [ev1_cpy]; rfl
theorem fillL_bytes (ys : List UInt8) (cs : List UInt8) (o : Nat) (h : o + ys.length ≤ cs.length) : fillL (bytesAV cs) o (bytesAV ys) = bytesAV (cs.take o ++ ys ++ cs.drop (o + ys.length)) := by
  induction ys generalizing cs o with
  | nil => simp [bytesAV, fillL]
  | cons y ys ih =>
    have : bytesAV (y :: ys) = u8v y :: bytesAV ys := rfl
    rw [this]
    simp only [fillL]
    rw [bytesAV_set, ih _ _ (by simp at h ⊢; omega)]
    congr 1
    have h0 : o < cs.length := by simp at h; omega
    rw [List.take_succ_eq_append_getElem (by simpa using h0)]
    simp only [List.getElem_set_self, List.take_set_of_le (Nat.le_refl o), List.append_assoc, List.cons_append, List.nil_append]
    rw [List.drop_set_of_lt (by omega)]
    simp only [List.length_cons]
    rw [show o + 1 + ys.length = o + (ys.length + 1) from by omega]
theorem Has.cpy {s : St} {b : Nat} {cs : List UInt8} (h : Has s b cs) (o n : Nat) (y : AV) (ys : List UInt8) (hy : newsOf 1 s y = some (bytesAV ys, ys.length)) (hl : o + min ys.length n ≤ cs.length) :
    cpyV 1 s (.hs 1 b o n) y = some (.int .i64 (min ys.length n : Nat), s.upd b (.cells 1 (bytesAV (cs.take o ++ ys.take (min ys.length n) ++ cs.drop (o + min ys.length n))))) := by
  unfold Has at h
  simp only [cpyV, hy, h, if_true, Nat.mul_one]
  have : (bytesAV ys).take (min ys.length n) = bytesAV (ys.take (min ys.length n)) := by simp [bytesAV, List.map_take]
  rw [this, storeL, if_pos (by simp [bytesAV_length]; omega), fillL_bytes _ _ _ (by simp; omega)]
  simp
theorem hs_behind (b n i : Nat) (h : i < n) : slcV 1 (.hs 1 b 0 n) (some (.int .i64 (i : Int))) none = some (.hs 1 b i (n - i)) := by
  have q : bnd n (.int .i64 (i : Int)) = some i := by simp [bnd]; omega
  simp only [slcV, bndO, q]
  rw [if_pos ⟨trivial, .inr h⟩]; simp
theorem hs_till (b n i : Nat) (h : i ≤ n) : slcV 1 (.hs 1 b 0 n) none (some (.int .i64 (i : Int))) = some (.hs 1 b 0 i) := by
  have q : bnd n (.int .i64 (i : Int)) = some i := by simp [bnd]; omega
  simp only [slcV, bndO, q]
  rw [if_pos ⟨trivial, .inl trivial⟩]; simp
theorem Has.news {s : St} {b : Nat} {cs : List UInt8} (h : Has s b cs) (n : Nat) (hn : n ≤ cs.length) : newsOf 1 s (.hs 1 b 0 n) = some (bytesAV (cs.take n), (cs.take n).length) := by
  unfold Has at h
  simp only [newsOf, h]
  rw [if_pos ⟨trivial, by simp [bytesAV_length]; omega⟩]
  simp [bytesAV, List.map_take]; omega
end Go.Ab
namespace Go.Proofs.YtgflghhffmjojaaGreatDoor.wr
open Go Go.Ab
theorem mul_ev (k n : Nat) (hn : n ≤ 10) (s : St) : ev2 (k + 5) 133 [.int .u64 1, .int .u64 (n : Int)] s = some (.tup [.int .u64 0, .int .u64 (n : Int)], s) := by
  rcases n with _ | _ | _ | _ | _ | _ | _ | _ | _ | _ | _ | n
  all_goals first | omega | kernel_rfl
def E44 (x : AV) (i : Int) : Env := [.undef, .undef, .undef, .undef, .undef, .undef, .undef, x, .int .i64 i] ++ List.replicate 39 .undef
def half (n c : Nat) : List UInt8 := List.replicate c 255 ++ List.replicate (n - c) 0
theorem half_next (n c : Nat) (h : c < n) : (half n c).take c ++ ((half n c).take c).take (min ((half n c).take c).length (n - c)) ++ (half n c).drop (c + min ((half n c).take c).length (n - c)) = half n (c + min c (n - c)) := by
  have h1 : (half n c).take c = List.replicate c 255 := by simp [half]
  rw [h1]
  simp only [List.length_replicate, List.take_replicate, half]
  rw [List.drop_append]
  simp only [List.drop_replicate, List.length_replicate]
  rw [show c - (c + min c (n - c)) = 0 from by omega, show n - c - (c + min c (n - c) - c) = n - (c + min c (n - c)) from by omega]
  simp only [List.replicate_zero, List.nil_append, ← List.append_assoc]
  congr 1
  rw [List.replicate_append_replicate]
  congr 1; omega
theorem round44 (call : Calls') (k n c b : Nat) (hc : c < n) (hn : n ≤ 10) (s : St) (hs : Has s b (half n c)) :
    ∃ e' s', evC tabGl call k M126b0 (E44 (.hs 1 b 0 n) c) s = some (.nrm, e', s') ∧ maskE M126b0l e' = E44 (.hs 1 b 0 n) (c + min c (n - c) : Nat) ∧ Has s' b (half n (c + min c (n - c))) ∧ s' = s.upd b (.cells 1 (bytesAV (half n (c + min c (n - c))))) := by
  have h1 : ((c : Int) < (n : Int)) = True := eq_true (by omega)
  have hlen : (half n c).length = n := by simp [half]; omega
  have g1 := hs_behind b n c hc
  have g2 := hs_till b n c (by omega)
  have g3 := hs.cpy c (n - c) (.hs 1 b 0 c) ((half n c).take c) (hs.news c (by omega)) (by simp; omega)
  rw [half_next n c hc] at g3
  have hl2 : ((half n c).take c).length = c := by simp [half]
  rw [hl2] at g3
  have h2 : IntKind.i64.wrap ((c : Int) + ((min c (n - c) : Nat) : Int)) = ((c + min c (n - c) : Nat) : Int) := by rw [wrapI _ (by omega) (by omega)]; omega
  refine ⟨_, _, Eq.trans (b := some (Ex.nrm, ?_, s.upd b (.cells 1 (bytesAV (half n (c + min c (n - c))))))) ?_ rfl, ?_, hs.upd _, rfl⟩
  case refine_2 =>
    simp only [M126b0, M126r0, E44, lenV, h1, g1, g2, g3, h2, ev1_cpyV, env0, List.length_cons, List.length_nil, Nat.reduceAdd, Nat.reduceSub, List.replicate, List.cons_append, List.nil_append, evC_seq, evC_reg, evC_skip, evC_exit, evC_ret, evC_block, evC_condX, condX_true, condX_false, evOps_nil, evOps_one, contR_some, evOps_gd, gdR_tt, gdR_ft, gdR_tf, gdR_ff, gdR_un, bq_true, bq_false, ev1_mv, ev1_pick, ev1_bin, ev1_eqv, ev1_un, un_not, ev1_mki, ev1_slc, ev1_lenV, ev1_ixaV, ev1_appV, ev1_load, ev1_call, ev1_mn, ev1_mx, ev1_conv, ev1_alloc, ev1_storeV, ev1_bslR, bslR_sl, bslR_hs, fill_nil, fill_cons, fill1_u8a, fill1_u8b, fill1_ca, fill1_cb, thenO_some, loadR_rp, opd, Env.put, Env.at, seqR_nrm, seqR_exit, seqR_ret, regR_some, List.set_cons_zero, List.set_cons_succ, List.getD_cons_zero, List.getD_cons_succ, pR_some, wR_some, callR_some, freezeL, freeze_int, freeze_bool, freeze_str, freeze_u16, freeze_u8, freeze_ptr, freeze_nils, boolR_true, boolR_false, blockR_nrm, blockR_exit, blockR_ret, outR_ret, outR_nrm, resVs, resV_tmp, oneOr, Option.map_some, Option.map_none, List.map_cons, List.map_nil, if_true, if_false, Bool.not_true, Bool.not_false, Bool.false_eq_true, reduceIte, decide_true, decide_false, i64_lss, i64_leq, i64_gtr, i64_geq, i64_eql, i64_neq, i64_add, i64_sub, evC_draw, evLoud_nil, evLoud_one, az_mv, az_pick, az_bin, az_eqv, az_un, az_conv, az_mki, az_slc, az_sls, az_lens, az_ixs, az_fa, az_fld, az_ixa, az_ixp, az_ix, az_load, az_store, az_nchk, az_tas, az_ext, az_call, az_len, az_mn, az_mx, az_app, az_build, az_bsl, az_box, az_mks, az_cpy, az_rng, az_nxt, bk_mv, bk_pick, bk_bin, bk_eqv, bk_un, bk_mki, bk_slc, bk_sls, bk_lens, bk_ixs, bk_fa, bk_fld, bk_ixa, bk_ixp, bk_ix, bk_store, bk_nchk, bk_tas, bk_ext, bk_call, bk_len, bk_mn, bk_mx, bk_app, bk_build, bk_bsl, bk_box, bk_mks, bk_cpy, bk_rng, bk_nxt, bk_alloc, reserve_nil, reserve_none, reserve_gd, reserve_alloc, contL_some, evLoud_gd, gdL_tt, gdL_ft, gdL_tf, gdL_ff, gdL_un, evLoud_alloc, placeR]
    rw [drawR_ok]; case h => exact calm_quiet (by simp only [List.map_cons, List.map_nil]; decide +kernel)
    simp only [env0, List.length_cons, List.length_nil, Nat.reduceAdd, Nat.reduceSub, List.replicate, List.cons_append, List.nil_append, evC_seq, evC_reg, evC_skip, evC_exit, evC_ret, evC_block, evC_condX, condX_true, condX_false, evOps_nil, evOps_one, contR_some, evOps_gd, gdR_tt, gdR_ft, gdR_tf, gdR_ff, gdR_un, bq_true, bq_false, ev1_mv, ev1_pick, ev1_bin, ev1_eqv, ev1_un, un_not, ev1_mki, ev1_slc, ev1_lenV, ev1_ixaV, ev1_appV, ev1_load, ev1_call, ev1_mn, ev1_mx, ev1_conv, ev1_alloc, ev1_storeV, ev1_bslR, bslR_sl, bslR_hs, fill_nil, fill_cons, fill1_u8a, fill1_u8b, fill1_ca, fill1_cb, thenO_some, loadR_rp, opd, Env.put, Env.at, seqR_nrm, seqR_exit, seqR_ret, regR_some, List.set_cons_zero, List.set_cons_succ, List.getD_cons_zero, List.getD_cons_succ, pR_some, wR_some, callR_some, freezeL, freeze_int, freeze_bool, freeze_str, freeze_u16, freeze_u8, freeze_ptr, freeze_nils, boolR_true, boolR_false, blockR_nrm, blockR_exit, blockR_ret, outR_ret, outR_nrm, resVs, resV_tmp, oneOr, Option.map_some, Option.map_none, List.map_cons, List.map_nil, if_true, if_false, Bool.not_true, Bool.not_false, Bool.false_eq_true, reduceIte, decide_true, decide_false, i64_lss, i64_leq, i64_gtr, i64_geq, i64_eql, i64_neq, i64_add, i64_sub]
    rfl
  case refine_3 => rfl
theorem repeat_ev (k n : Nat) (hn : n ≤ 10) (hk : 10 < k) (tk : Option (Nat × Nat × Nat)) (s : St) :
    ∃ s', ev2 (k + 6) 126 [.sl [.int .u8 255] 1 tk, .int .i64 (n : Int)] s = some (.sl (bytesAV (List.replicate n 255)) n none, s') ∧ Ext s s' := by
  have hm : ∀ s, ev2 (k + 5) 133 [.int .u64 (1 : Int), .int .u64 (n : Int)] s = some (.tup [.int .u64 0, .int .u64 (n : Int)], s) := fun s => mul_ev k n hn s
  have c1 : convP (.toInt .u64) (.int .i64 1) = some (.int .u64 1) := conv_u64 1 (by omega) .i64
  have c2 := conv_u64 n (by omega) .i64
  have c3 := conv_i64 n (by omega) .u64
  have h1 : ((n : Int) < 0) = False := eq_false (by omega)
  have h2 : ((0 : Int) > 0) = False := eq_false (by omega)
  have h3 : ((n : Int) > 9223372036854775807) = False := eq_false (by omega)
  have hs0 : Has (s.new (.cells 1 (bytesAV (List.replicate n 0)))) s.next (List.replicate n 0) := Has.new _ _
  have hy : newsOf 1 (s.new (.cells 1 (bytesAV (List.replicate n 0)))) (.sl [.int .u8 255] 1 tk) = some (bytesAV [255], ([255] : List UInt8).length) := rfl
  have g := hs0.cpy 0 n _ [255] hy (by simp; omega)
  have hh : (List.replicate n (0 : UInt8)).take 0 ++ ([255] : List UInt8).take (min ([255] : List UInt8).length n) ++ (List.replicate n (0 : UInt8)).drop (0 + min ([255] : List UInt8).length n) = half n (min 1 n) := by
    rcases n with _ | n
    · rfl
    · simp [half, Nat.min_eq_left]
  rw [hh] at g
  have hs1 := hs0.upd (half n (min 1 n))
  have e1 : Ext s ((s.new (.cells 1 (bytesAV (List.replicate n 0)))).upd s.next (.cells 1 (bytesAV (half n (min 1 n))))) := ((Ext.refl s).new _).upd (Nat.le_refl _) _
  generalize (s.new (.cells 1 (bytesAV (List.replicate n 0)))).upd s.next (.cells 1 (bytesAV (half n (min 1 n)))) = s1 at g hs1 e1
  have off : ∀ s', evC tabGl (ev2 (k + 5)) (k + 5) M126b0 (E44 (.hs 1 s.next 0 n) n) s' = some (.exit 0, (E44 (.hs 1 s.next 0 n) n).set 34 (.int .i64 n) |>.set 35 (.hs 1 s.next 0 n) |>.set 36 (.int .i64 n) |>.set 37 (.bool false), s') := by
    intro s'
    simp only [M126b0, M126r0, E44, lenV, Int.lt_irrefl, env0, List.length_cons, List.length_nil, Nat.reduceAdd, Nat.reduceSub, List.replicate, List.cons_append, List.nil_append, evC_seq, evC_reg, evC_skip, evC_exit, evC_ret, evC_block, evC_condX, condX_true, condX_false, evOps_nil, evOps_one, contR_some, evOps_gd, gdR_tt, gdR_ft, gdR_tf, gdR_ff, gdR_un, bq_true, bq_false, ev1_mv, ev1_pick, ev1_bin, ev1_eqv, ev1_un, un_not, ev1_mki, ev1_slc, ev1_lenV, ev1_ixaV, ev1_appV, ev1_load, ev1_call, ev1_mn, ev1_mx, ev1_conv, ev1_alloc, ev1_storeV, ev1_bslR, bslR_sl, bslR_hs, fill_nil, fill_cons, fill1_u8a, fill1_u8b, fill1_ca, fill1_cb, thenO_some, loadR_rp, opd, Env.put, Env.at, seqR_nrm, seqR_exit, seqR_ret, regR_some, List.set_cons_zero, List.set_cons_succ, List.getD_cons_zero, List.getD_cons_succ, pR_some, wR_some, callR_some, freezeL, freeze_int, freeze_bool, freeze_str, freeze_u16, freeze_u8, freeze_ptr, freeze_nils, boolR_true, boolR_false, blockR_nrm, blockR_exit, blockR_ret, outR_ret, outR_nrm, resVs, resV_tmp, oneOr, Option.map_some, Option.map_none, List.map_cons, List.map_nil, if_true, if_false, Bool.not_true, Bool.not_false, Bool.false_eq_true, reduceIte, decide_true, decide_false, i64_lss, i64_leq, i64_gtr, i64_geq, i64_eql, i64_neq, i64_add, i64_sub]
  have key := iter_leave (evC tabGl (ev2 (k + 5)) (k + 5) M126b0) M126b0l (fun i e' s' => ∃ c, (c = n ∨ (i ≤ c ∧ c < n ∧ (0 < n → 0 < c))) ∧ maskE M126b0l e' = E44 (.hs 1 s.next 0 n) (c : Nat) ∧ Has s' s.next (half n c) ∧ Ext s s')
    (fun r => ∃ s', r = some (.exit 0, (E44 (.hs 1 s.next 0 n) n).set 34 (.int .i64 n) |>.set 35 (.hs 1 s.next 0 n) |>.set 36 (.int .i64 n) |>.set 37 (.bool false), s') ∧ Has s' s.next (half n n) ∧ Ext s s') n ?_ ?_ n 0 (E44 (.hs 1 s.next 0 n) (min 1 n : Nat)) s1 (k + 5) (by omega) ⟨min 1 n, by omega, rfl, hs1, e1⟩ (by omega)
  · obtain ⟨s', k1, k2, k3⟩ := key
    have hfull : half n n = List.replicate n 255 := by simp [half]
    rw [hfull] at k2
    have fz := k2.freeze
    rw [List.length_replicate] at fz
    refine ⟨s'.upd s.next (.froz 1 (bytesAV (List.replicate n 255))), ?_, k3.upd (Nat.le_refl _) _⟩
    have key' : ∀ e, maskE M126b0l e = E44 (.hs 1 s.next 0 n) (min 1 n : Nat) → iter (evC tabGl (ev2 (k + 5)) (k + 5) M126b0) M126b0l (k + 5) e s1 = some (.exit 0, (E44 (.hs 1 s.next 0 n) n).set 34 (.int .i64 n) |>.set 35 (.hs 1 s.next 0 n) |>.set 36 (.int .i64 n) |>.set 37 (.bool false), s') :=
      fun e he => by rw [iter_mask _ _ _ e (E44 (.hs 1 s.next 0 n) (min 1 n : Nat)) _ (he.trans rfl), k1]
    rw [show k + 6 = (k + 5) + 1 from rfl, ev2_in rfl tab126]
    simp only [M126, lenV, h1, Int.natCast_one, c1, c2, hm, u64_gtr, h2, h3, c3, ev1_mksV, mks_n _ n (show n ≤ 1000000000 by omega), evC_loop, evP, ev1_ext, List.getElem?_cons_zero, List.getElem?_cons_succ, ev1_cpyV, g, List.length_cons, List.length_nil, Nat.zero_add, env0, List.length_cons, List.length_nil, Nat.reduceAdd, Nat.reduceSub, List.replicate, List.cons_append, List.nil_append, evC_seq, evC_reg, evC_skip, evC_exit, evC_ret, evC_block, evC_condX, condX_true, condX_false, evOps_nil, evOps_one, contR_some, evOps_gd, gdR_tt, gdR_ft, gdR_tf, gdR_ff, gdR_un, bq_true, bq_false, ev1_mv, ev1_pick, ev1_bin, ev1_eqv, ev1_un, un_not, ev1_mki, ev1_slc, ev1_lenV, ev1_ixaV, ev1_appV, ev1_load, ev1_call, ev1_mn, ev1_mx, ev1_conv, ev1_alloc, ev1_storeV, ev1_bslR, bslR_sl, bslR_hs, fill_nil, fill_cons, fill1_u8a, fill1_u8b, fill1_ca, fill1_cb, thenO_some, loadR_rp, opd, Env.put, Env.at, seqR_nrm, seqR_exit, seqR_ret, regR_some, List.set_cons_zero, List.set_cons_succ, List.getD_cons_zero, List.getD_cons_succ, pR_some, wR_some, callR_some, freezeL, freeze_int, freeze_bool, freeze_str, freeze_u16, freeze_u8, freeze_ptr, freeze_nils, boolR_true, boolR_false, blockR_nrm, blockR_exit, blockR_ret, outR_ret, outR_nrm, resVs, resV_tmp, oneOr, Option.map_some, Option.map_none, List.map_cons, List.map_nil, if_true, if_false, Bool.not_true, Bool.not_false, Bool.false_eq_true, reduceIte, decide_true, decide_false, i64_lss, i64_leq, i64_gtr, i64_geq, i64_eql, i64_neq, i64_add, i64_sub]
    rw [key' _ rfl]
    simp only [M126r0, E44, List.replicate, List.cons_append, List.nil_append, fz, env0, List.length_cons, List.length_nil, Nat.reduceAdd, Nat.reduceSub, List.replicate, List.cons_append, List.nil_append, evC_seq, evC_reg, evC_skip, evC_exit, evC_ret, evC_block, evC_condX, condX_true, condX_false, evOps_nil, evOps_one, contR_some, evOps_gd, gdR_tt, gdR_ft, gdR_tf, gdR_ff, gdR_un, bq_true, bq_false, ev1_mv, ev1_pick, ev1_bin, ev1_eqv, ev1_un, un_not, ev1_mki, ev1_slc, ev1_lenV, ev1_ixaV, ev1_appV, ev1_load, ev1_call, ev1_mn, ev1_mx, ev1_conv, ev1_alloc, ev1_storeV, ev1_bslR, bslR_sl, bslR_hs, fill_nil, fill_cons, fill1_u8a, fill1_u8b, fill1_ca, fill1_cb, thenO_some, loadR_rp, opd, Env.put, Env.at, seqR_nrm, seqR_exit, seqR_ret, regR_some, List.set_cons_zero, List.set_cons_succ, List.getD_cons_zero, List.getD_cons_succ, pR_some, wR_some, callR_some, freezeL, freeze_int, freeze_bool, freeze_str, freeze_u16, freeze_u8, freeze_ptr, freeze_nils, boolR_true, boolR_false, blockR_nrm, blockR_exit, blockR_ret, outR_ret, outR_nrm, resVs, resV_tmp, oneOr, Option.map_some, Option.map_none, List.map_cons, List.map_nil, if_true, if_false, Bool.not_true, Bool.not_false, Bool.false_eq_true, reduceIte, decide_true, decide_false, i64_lss, i64_leq, i64_gtr, i64_geq, i64_eql, i64_neq, i64_add, i64_sub]
  · rintro i e' s' hi ⟨c, hc, h, hs, he⟩
    rcases hc with rfl | ⟨hc1, hc2, hc3⟩
    · right
      rw [h, off]
      exact ⟨⟨s', rfl, hs, he⟩, fun _ _ => by simp⟩
    · left
      obtain ⟨e2, s2, g1, g2, g3, g4⟩ := round44 (ev2 (k + 5)) (k + 5) n c s.next hc2 hn s' hs
      refine ⟨e2, s2, by rw [h]; exact g1, _, ?_, g2, g3, ?_⟩
      · have := hc3 (by omega)
        by_cases hq : c + min c (n - c) = n
        · exact .inl hq
        · exact .inr ⟨by omega, by omega, fun _ => by omega⟩
      · rw [g4]; exact he.upd (Nat.le_refl _) _
  · rintro e' s' ⟨c, hc, h, hs, he⟩
    have : c = n := by omega
    subst this
    rw [h, off]
    exact ⟨⟨s', rfl, hs, he⟩, fun _ _ => by simp⟩
end Go.Proofs.YtgflghhffmjojaaGreatDoor.wr
namespace Go.Ab
open Go
def AllBys : List AV → List (List UInt8) → Prop
  | [], [] => True
  | x :: xs, b :: bs => Bys x b ∧ AllBys xs bs
  | _, _ => False
theorem AllBys.length {ls : List AV} {bs : List (List UInt8)} (h : AllBys ls bs) : ls.length = bs.length := by
  induction ls generalizing bs with
  | nil => cases bs with
    | nil => rfl
    | cons b bs => exact absurd h id
  | cons x ls ih => cases bs with
    | nil => exact absurd h id
    | cons b bs => simp [ih h.2]
theorem AllBys.get {ls : List AV} {bs : List (List UInt8)} (h : AllBys ls bs) (i : Nat) (hi : i < ls.length) (hj : i < bs.length) : Bys ls[i] bs[i] := by
  induction ls generalizing bs i with
  | nil => simp at hi
  | cons x ls ih => cases bs with
    | nil => exact absurd h id
    | cons b bs => cases i with
      | zero => exact h.1
      | succ i => exact ih h.2 i (by simpa using hi) (by simpa using hj)
theorem sl_ixa (ls : List AV) (tk) (i : Nat) (h : i < ls.length) : ixaV 1 (.sl ls ls.length tk) (.int .i64 (i : Int)) = some (.rp (ls.drop i)) := by
  have : idx ls.length (.int .i64 (i : Int)) = some i := by simp [idx]; omega
  simp [ixaV, this]
theorem cut_drop (ls : List AV) (i : Nat) (h : i < ls.length) : Ab.cut (ls.drop i) 0 none = some ls[i] := by
  simp [Ab.cut, h]
theorem freeze_sl (n : Nat) (s : St) (cs : List AV) (m : Nat) (tk) : Ab.freeze n s (.sl cs m tk) = some (.sl cs m tk, s) := rfl
theorem Bys.fill1 {x : AV} {xs : List UInt8} (h : Bys x xs) (cs : List AV) (off : Nat) (ho : off < cs.length) : Ab.fill1 cs off 1 x = some (cs.set off x) := by
  have : cellsOf x = some [x] := by rcases h with ⟨rfl, _⟩ | ⟨tk, rfl⟩ <;> rfl
  simp only [Ab.fill1, this, storeL, fillL, List.length_cons, List.length_nil, Nat.zero_add, if_true]
  rw [if_pos (by omega)]
theorem flat_succ (bs : List (List UInt8)) (i : Nat) (h : i < bs.length) : (bs.take (i + 1)).flatten = (bs.take i).flatten ++ bs[i] := by
  rw [List.take_succ_eq_append_getElem h, List.flatten_append]; simp
theorem flat_le (bs : List (List UInt8)) (i : Nat) : (bs.take i).flatten.length ≤ bs.flatten.length := by
  have : bs.flatten = (bs.take i).flatten ++ (bs.drop i).flatten := by rw [← List.flatten_append, List.take_append_drop]
  rw [this]; simp
end Go.Ab
namespace Go.Proofs.YtgflghhffmjojaaGreatDoor.wr
open Go Go.Ab
theorem grow_ev (k n : Nat) (h : n ≤ 1000000) (s : St) : ∃ y s', ev2 (k + 1) 160 [.nils, .int .i64 (n : Int)] s = some (y, s') ∧ Own s s' y [] ∧ Ext s s' := by
  have h0 : ev2 (k + 1) 160 [.nils, .int .i64 (n : Int)] s = growX [.nils, .int .i64 (n : Int)] s := rfl
  rw [h0]
  by_cases hn : n = 0
  · subst hn
    exact ⟨.nils, s, rfl, Own.nil s s, Ext.refl s⟩
  · refine ⟨_, _, ?_, Own.mk s s (Ext.refl s) [] [] rfl 0 rfl, (Ext.refl s).new _⟩
    simp only [growX]
    rw [if_neg (by omega), if_pos ⟨by omega, by omega⟩]
def E45a (x : AV) (t n i : Int) : Env := [x, .undef, .undef, .int .i64 t, .undef, .undef, .undef, .undef, .undef, x, .int .i64 n, .int .i64 i] ++ List.replicate 24 .undef
def E45b (o x : AV) (n i : Int) : Env := [.undef, .undef, .undef, .undef, .undef, .undef, o] ++ List.replicate 18 .undef ++ [x, .int .i64 n, .int .i64 i] ++ List.replicate 8 .undef
section
variable {ls : List AV} {bs : List (List UInt8)} (h : AllBys ls bs) (hl : bs.flatten.length ≤ 1000000) (hn : ls.length ≤ 1000) (tk : Option (Nat × Nat × Nat))
include h hl hn
theorem round45a (call : Calls') (k i : Nat) (hi : i < ls.length) (s : St) :
    ∃ e', evC tabGl call k M127b1 (E45a (.sl ls ls.length tk) (bs.take i).flatten.length ls.length i) s = some (.nrm, e', s) ∧ maskE M127b1l e' = E45a (.sl ls ls.length tk) (bs.take (i + 1)).flatten.length ls.length (i + 1 : Nat) := by
  have hj : i < bs.length := by rw [← h.length]; exact hi
  have hb := h.get i hi hj
  have h1 : ((i : Int) < (ls.length : Int)) = True := eq_true (by omega)
  have h2 : IntKind.i64.wrap ((i : Int) + 1) = ((i + 1 : Nat) : Int) := by rw [wrapI _ (by omega) (by omega)]; omega
  have hle := flat_le bs (i + 1)
  have hfl : ((bs.take (i + 1)).flatten.length : Int) = ((bs.take i).flatten.length : Int) + (bs[i].length : Int) := by rw [flat_succ bs i hj, List.length_append]; omega
  have h3 : IntKind.i64.wrap (((bs.take i).flatten.length : Int) + (bs[i].length : Int)) = ((bs.take (i + 1)).flatten.length : Int) := by rw [wrapI _ (by omega) (by omega), hfl]
  have h4 : (((bs.take (i + 1)).flatten.length : Int) < 0) = False := eq_false (by omega)
  refine ⟨_, Eq.trans (b := some (Ex.nrm, ?_, s)) ?_ rfl, ?_⟩
  case refine_2 =>
    simp only [M127b1, M127r0, M127r1, E45a, h1, h2, sl_ixa ls tk i hi, cut_drop ls i hi, hb.len, h3, h4, env0, List.length_cons, List.length_nil, Nat.reduceAdd, Nat.reduceSub, List.replicate, List.cons_append, List.nil_append, evC_seq, evC_reg, evC_skip, evC_exit, evC_ret, evC_block, evC_condX, condX_true, condX_false, evOps_nil, evOps_one, contR_some, evOps_gd, gdR_tt, gdR_ft, gdR_tf, gdR_ff, gdR_un, bq_true, bq_false, ev1_mv, ev1_pick, ev1_bin, ev1_eqv, ev1_un, un_not, ev1_mki, ev1_slc, ev1_lenV, ev1_ixaV, ev1_appV, ev1_load, ev1_call, ev1_mn, ev1_mx, ev1_conv, ev1_alloc, ev1_storeV, ev1_bslR, bslR_sl, bslR_hs, fill_nil, fill_cons, fill1_u8a, fill1_u8b, fill1_ca, fill1_cb, thenO_some, loadR_rp, opd, Env.put, Env.at, seqR_nrm, seqR_exit, seqR_ret, regR_some, List.set_cons_zero, List.set_cons_succ, List.getD_cons_zero, List.getD_cons_succ, pR_some, wR_some, callR_some, freezeL, freeze_int, freeze_bool, freeze_str, freeze_u16, freeze_u8, freeze_ptr, freeze_nils, boolR_true, boolR_false, blockR_nrm, blockR_exit, blockR_ret, outR_ret, outR_nrm, resVs, resV_tmp, oneOr, Option.map_some, Option.map_none, List.map_cons, List.map_nil, if_true, if_false, Bool.not_true, Bool.not_false, Bool.false_eq_true, reduceIte, decide_true, decide_false, i64_lss, i64_leq, i64_gtr, i64_geq, i64_eql, i64_neq, i64_add, i64_sub]
    rfl
  case refine_3 => rfl
theorem round45b (call : Calls') (k i : Nat) (hi : i < ls.length) (s0 s : St) (o : AV) (ho : Own s0 s o (bs.take i).flatten) (he : Ext s0 s) :
    ∃ e' s' o', evC tabGl call k M127b0 (E45b o (.sl ls ls.length tk) ls.length i) s = some (.nrm, e', s') ∧ maskE M127b0l e' = E45b o' (.sl ls ls.length tk) ls.length (i + 1 : Nat) ∧ Own s0 s' o' (bs.take (i + 1)).flatten ∧ Ext s0 s' := by
  have hj : i < bs.length := by rw [← h.length]; exact hi
  have hb := h.get i hi hj
  have h1 : ((i : Int) < (ls.length : Int)) = True := eq_true (by omega)
  have h2 : IntKind.i64.wrap ((i : Int) + 1) = ((i + 1 : Nat) : Int) := by rw [wrapI _ (by omega) (by omega)]; omega
  have hle := flat_le bs (i + 1)
  rw [flat_succ bs i hj, List.length_append] at hle
  obtain ⟨z, s', g1, g2, g3⟩ := ho.app hb he (by omega)
  rw [flat_succ bs i hj]
  refine ⟨_, s', z, Eq.trans (b := some (Ex.nrm, ?_, s')) ?_ rfl, ?_, g2, g3⟩
  case refine_2 =>
    simp only [M127b0, M127r0, M127r1, E45b, List.replicate, List.cons_append, List.nil_append, h1, h2, sl_ixa ls tk i hi, cut_drop ls i hi, g1, env0, List.length_cons, List.length_nil, Nat.reduceAdd, Nat.reduceSub, List.replicate, List.cons_append, List.nil_append, evC_seq, evC_reg, evC_skip, evC_exit, evC_ret, evC_block, evC_condX, condX_true, condX_false, evOps_nil, evOps_one, contR_some, evOps_gd, gdR_tt, gdR_ft, gdR_tf, gdR_ff, gdR_un, bq_true, bq_false, ev1_mv, ev1_pick, ev1_bin, ev1_eqv, ev1_un, un_not, ev1_mki, ev1_slc, ev1_lenV, ev1_ixaV, ev1_appV, ev1_load, ev1_call, ev1_mn, ev1_mx, ev1_conv, ev1_alloc, ev1_storeV, ev1_bslR, bslR_sl, bslR_hs, fill_nil, fill_cons, fill1_u8a, fill1_u8b, fill1_ca, fill1_cb, thenO_some, loadR_rp, opd, Env.put, Env.at, seqR_nrm, seqR_exit, seqR_ret, regR_some, List.set_cons_zero, List.set_cons_succ, List.getD_cons_zero, List.getD_cons_succ, pR_some, wR_some, callR_some, freezeL, freeze_int, freeze_bool, freeze_str, freeze_u16, freeze_u8, freeze_ptr, freeze_nils, boolR_true, boolR_false, blockR_nrm, blockR_exit, blockR_ret, outR_ret, outR_nrm, resVs, resV_tmp, oneOr, Option.map_some, Option.map_none, List.map_cons, List.map_nil, if_true, if_false, Bool.not_true, Bool.not_false, Bool.false_eq_true, reduceIte, decide_true, decide_false, i64_lss, i64_leq, i64_gtr, i64_geq, i64_eql, i64_neq, i64_add, i64_sub]
    rfl
  case refine_3 => rfl
theorem concat_ev (k : Nat) (hk : ls.length < k) (s : St) :
    ∃ y s', ev2 (k + 2) 127 [.sl ls ls.length tk] s = some (y, s') ∧ Own s s' y bs.flatten ∧ Ext s s' := by
  have key1 : ∀ s e, maskE M127b1l e = E45a (.sl ls ls.length tk) 0 ls.length 0 → iter (evC tabGl (ev2 (k + 1)) (k + 1) M127b1) M127b1l (k + 1) e s = evC tabGl (ev2 (k + 1)) (k + 1) M127b1 (E45a (.sl ls ls.length tk) bs.flatten.length ls.length ls.length) s := by
    intro s e he
    refine iter_rounds _ _ (fun i e' s' => s' = s ∧ maskE M127b1l e' = E45a (.sl ls ls.length tk) (bs.take i).flatten.length ls.length (i : Nat)) _ ls.length ?_ ?_ ls.length 0 e s (k + 1) (by omega) ⟨rfl, by rw [he]; rfl⟩ (by omega)
    · rintro i e' s' hi ⟨rfl, hm⟩
      obtain ⟨e2, h1, h2⟩ := round45a h hl hn tk (ev2 (k + 1)) (k + 1) i hi s'
      exact ⟨e2, s', by rw [hm]; exact h1, rfl, h2⟩
    · rintro e' s' ⟨rfl, hm⟩
      refine ⟨by rw [hm, h.length, List.take_length], fun e2 s2 => ?_⟩
      simp only [M127b1, M127r0, M127r1, E45a, Int.lt_irrefl, env0, List.length_cons, List.length_nil, Nat.reduceAdd, Nat.reduceSub, List.replicate, List.cons_append, List.nil_append, evC_seq, evC_reg, evC_skip, evC_exit, evC_ret, evC_block, evC_condX, condX_true, condX_false, evOps_nil, evOps_one, contR_some, evOps_gd, gdR_tt, gdR_ft, gdR_tf, gdR_ff, gdR_un, bq_true, bq_false, ev1_mv, ev1_pick, ev1_bin, ev1_eqv, ev1_un, un_not, ev1_mki, ev1_slc, ev1_lenV, ev1_ixaV, ev1_appV, ev1_load, ev1_call, ev1_mn, ev1_mx, ev1_conv, ev1_alloc, ev1_storeV, ev1_bslR, bslR_sl, bslR_hs, fill_nil, fill_cons, fill1_u8a, fill1_u8b, fill1_ca, fill1_cb, thenO_some, loadR_rp, opd, Env.put, Env.at, seqR_nrm, seqR_exit, seqR_ret, regR_some, List.set_cons_zero, List.set_cons_succ, List.getD_cons_zero, List.getD_cons_succ, pR_some, wR_some, callR_some, freezeL, freeze_int, freeze_bool, freeze_str, freeze_u16, freeze_u8, freeze_ptr, freeze_nils, boolR_true, boolR_false, blockR_nrm, blockR_exit, blockR_ret, outR_ret, outR_nrm, resVs, resV_tmp, oneOr, Option.map_some, Option.map_none, List.map_cons, List.map_nil, if_true, if_false, Bool.not_true, Bool.not_false, Bool.false_eq_true, reduceIte, decide_true, decide_false, i64_lss, i64_leq, i64_gtr, i64_geq, i64_eql, i64_neq, i64_add, i64_sub]
      simp
  obtain ⟨z, s1, z1, z2, z3⟩ := grow_ev k bs.flatten.length hl s
  have off : ∀ o s', evC tabGl (ev2 (k + 1)) (k + 1) M127b0 (E45b o (.sl ls ls.length tk) ls.length ls.length) s' = some (.exit 2, (E45b o (.sl ls ls.length tk) ls.length ls.length).set 28 (.bool false), s') := by
    intro o s'
    simp only [M127b0, M127r0, M127r1, E45b, List.replicate, List.cons_append, List.nil_append, Int.lt_irrefl, env0, List.length_cons, List.length_nil, Nat.reduceAdd, Nat.reduceSub, List.replicate, List.cons_append, List.nil_append, evC_seq, evC_reg, evC_skip, evC_exit, evC_ret, evC_block, evC_condX, condX_true, condX_false, evOps_nil, evOps_one, contR_some, evOps_gd, gdR_tt, gdR_ft, gdR_tf, gdR_ff, gdR_un, bq_true, bq_false, ev1_mv, ev1_pick, ev1_bin, ev1_eqv, ev1_un, un_not, ev1_mki, ev1_slc, ev1_lenV, ev1_ixaV, ev1_appV, ev1_load, ev1_call, ev1_mn, ev1_mx, ev1_conv, ev1_alloc, ev1_storeV, ev1_bslR, bslR_sl, bslR_hs, fill_nil, fill_cons, fill1_u8a, fill1_u8b, fill1_ca, fill1_cb, thenO_some, loadR_rp, opd, Env.put, Env.at, seqR_nrm, seqR_exit, seqR_ret, regR_some, List.set_cons_zero, List.set_cons_succ, List.getD_cons_zero, List.getD_cons_succ, pR_some, wR_some, callR_some, freezeL, freeze_int, freeze_bool, freeze_str, freeze_u16, freeze_u8, freeze_ptr, freeze_nils, boolR_true, boolR_false, blockR_nrm, blockR_exit, blockR_ret, outR_ret, outR_nrm, resVs, resV_tmp, oneOr, Option.map_some, Option.map_none, List.map_cons, List.map_nil, if_true, if_false, Bool.not_true, Bool.not_false, Bool.false_eq_true, reduceIte, decide_true, decide_false, i64_lss, i64_leq, i64_gtr, i64_geq, i64_eql, i64_neq, i64_add, i64_sub]
  have key := iter_leave (evC tabGl (ev2 (k + 1)) (k + 1) M127b0) M127b0l (fun i e' s' => ∃ o, maskE M127b0l e' = E45b o (.sl ls ls.length tk) ls.length (i : Nat) ∧ Own s s' o (bs.take i).flatten ∧ Ext s s')
    (fun r => ∃ o s', r = some (.exit 2, (E45b o (.sl ls ls.length tk) ls.length ls.length).set 28 (.bool false), s') ∧ Own s s' o bs.flatten ∧ Ext s s') ls.length ?_ ?_ ls.length 0 (E45b z (.sl ls ls.length tk) ls.length 0) s1 (k + 1) (by omega) ⟨z, rfl, z2, z3⟩ (by omega)
  · obtain ⟨o, s', k1, k2, k3⟩ := key
    have key2 : ∀ e, maskE M127b0l e = E45b z (.sl ls ls.length tk) ls.length 0 → iter (evC tabGl (ev2 (k + 1)) (k + 1) M127b0) M127b0l (k + 1) e s1 = some (.exit 2, (E45b o (.sl ls ls.length tk) ls.length ls.length).set 28 (.bool false), s') :=
      fun e he => by rw [iter_mask _ _ _ e (E45b z (.sl ls ls.length tk) ls.length 0) _ (he.trans rfl), k1]
    refine ⟨o, s', ?_, k2, k3⟩
    rw [show k + 2 = (k + 1) + 1 from rfl, ev2_in rfl tab127]
    simp only [M127, lenV, evC_loop, env0, List.length_cons, List.length_nil, Nat.reduceAdd, Nat.reduceSub, List.replicate, List.cons_append, List.nil_append, evC_seq, evC_reg, evC_skip, evC_exit, evC_ret, evC_block, evC_condX, condX_true, condX_false, evOps_nil, evOps_one, contR_some, evOps_gd, gdR_tt, gdR_ft, gdR_tf, gdR_ff, gdR_un, bq_true, bq_false, ev1_mv, ev1_pick, ev1_bin, ev1_eqv, ev1_un, un_not, ev1_mki, ev1_slc, ev1_lenV, ev1_ixaV, ev1_appV, ev1_load, ev1_call, ev1_mn, ev1_mx, ev1_conv, ev1_alloc, ev1_storeV, ev1_bslR, bslR_sl, bslR_hs, fill_nil, fill_cons, fill1_u8a, fill1_u8b, fill1_ca, fill1_cb, thenO_some, loadR_rp, opd, Env.put, Env.at, seqR_nrm, seqR_exit, seqR_ret, regR_some, List.set_cons_zero, List.set_cons_succ, List.getD_cons_zero, List.getD_cons_succ, pR_some, wR_some, callR_some, freezeL, freeze_int, freeze_bool, freeze_str, freeze_u16, freeze_u8, freeze_ptr, freeze_nils, boolR_true, boolR_false, blockR_nrm, blockR_exit, blockR_ret, outR_ret, outR_nrm, resVs, resV_tmp, oneOr, Option.map_some, Option.map_none, List.map_cons, List.map_nil, if_true, if_false, Bool.not_true, Bool.not_false, Bool.false_eq_true, reduceIte, decide_true, decide_false, i64_lss, i64_leq, i64_gtr, i64_geq, i64_eql, i64_neq, i64_add, i64_sub]
    rw [key1 _ _ rfl]
    simp only [M127b1, M127r0, M127r1, E45a, lenV, Int.lt_irrefl, evC_loop, z1, env0, List.length_cons, List.length_nil, Nat.reduceAdd, Nat.reduceSub, List.replicate, List.cons_append, List.nil_append, evC_seq, evC_reg, evC_skip, evC_exit, evC_ret, evC_block, evC_condX, condX_true, condX_false, evOps_nil, evOps_one, contR_some, evOps_gd, gdR_tt, gdR_ft, gdR_tf, gdR_ff, gdR_un, bq_true, bq_false, ev1_mv, ev1_pick, ev1_bin, ev1_eqv, ev1_un, un_not, ev1_mki, ev1_slc, ev1_lenV, ev1_ixaV, ev1_appV, ev1_load, ev1_call, ev1_mn, ev1_mx, ev1_conv, ev1_alloc, ev1_storeV, ev1_bslR, bslR_sl, bslR_hs, fill_nil, fill_cons, fill1_u8a, fill1_u8b, fill1_ca, fill1_cb, thenO_some, loadR_rp, opd, Env.put, Env.at, seqR_nrm, seqR_exit, seqR_ret, regR_some, List.set_cons_zero, List.set_cons_succ, List.getD_cons_zero, List.getD_cons_succ, pR_some, wR_some, callR_some, freezeL, freeze_int, freeze_bool, freeze_str, freeze_u16, freeze_u8, freeze_ptr, freeze_nils, boolR_true, boolR_false, blockR_nrm, blockR_exit, blockR_ret, outR_ret, outR_nrm, resVs, resV_tmp, oneOr, Option.map_some, Option.map_none, List.map_cons, List.map_nil, if_true, if_false, Bool.not_true, Bool.not_false, Bool.false_eq_true, reduceIte, decide_true, decide_false, i64_lss, i64_leq, i64_gtr, i64_geq, i64_eql, i64_neq, i64_add, i64_sub]
    rw [key2 _ rfl]
    simp only [M127r0, E45b, List.replicate, List.cons_append, List.nil_append, k2.bys.freeze, env0, List.length_cons, List.length_nil, Nat.reduceAdd, Nat.reduceSub, List.replicate, List.cons_append, List.nil_append, evC_seq, evC_reg, evC_skip, evC_exit, evC_ret, evC_block, evC_condX, condX_true, condX_false, evOps_nil, evOps_one, contR_some, evOps_gd, gdR_tt, gdR_ft, gdR_tf, gdR_ff, gdR_un, bq_true, bq_false, ev1_mv, ev1_pick, ev1_bin, ev1_eqv, ev1_un, un_not, ev1_mki, ev1_slc, ev1_lenV, ev1_ixaV, ev1_appV, ev1_load, ev1_call, ev1_mn, ev1_mx, ev1_conv, ev1_alloc, ev1_storeV, ev1_bslR, bslR_sl, bslR_hs, fill_nil, fill_cons, fill1_u8a, fill1_u8b, fill1_ca, fill1_cb, thenO_some, loadR_rp, opd, Env.put, Env.at, seqR_nrm, seqR_exit, seqR_ret, regR_some, List.set_cons_zero, List.set_cons_succ, List.getD_cons_zero, List.getD_cons_succ, pR_some, wR_some, callR_some, freezeL, freeze_int, freeze_bool, freeze_str, freeze_u16, freeze_u8, freeze_ptr, freeze_nils, boolR_true, boolR_false, blockR_nrm, blockR_exit, blockR_ret, outR_ret, outR_nrm, resVs, resV_tmp, oneOr, Option.map_some, Option.map_none, List.map_cons, List.map_nil, if_true, if_false, Bool.not_true, Bool.not_false, Bool.false_eq_true, reduceIte, decide_true, decide_false, i64_lss, i64_leq, i64_gtr, i64_geq, i64_eql, i64_neq, i64_add, i64_sub]
  · rintro i e' s' hi ⟨o, hm, ho, he⟩
    left
    obtain ⟨e2, s2, o2, h1, h2, h3, h4⟩ := round45b h hl hn tk (ev2 (k + 1)) (k + 1) i hi s s' o ho he
    exact ⟨e2, s2, by rw [hm]; exact h1, o2, h2, h3, h4⟩
  · rintro e' s' ⟨o, hm, ho, he⟩
    rw [hm, off]
    exact ⟨⟨o, s', rfl, by rwa [h.length, List.take_length] at ho, he⟩, fun _ _ => by simp⟩
end
end Go.Proofs.YtgflghhffmjojaaGreatDoor.wr
namespace Go.Proofs.YtgflghhffmjojaaGreatDoor.wr
open Go Go.Ab
def escB (x : UInt8) : List UInt8 := if (x == 192 || x == 193 || x == 125) = true then [125, x ^^^ 32] else [x]
def esc (xs : List UInt8) : List UInt8 := xs.flatMap escB
theorem esc_length (xs : List UInt8) : (esc xs).length ≤ 2 * xs.length := by
  induction xs with
  | nil => simp [esc]
  | cons x xs ih =>
    have : (escB x).length ≤ 2 := by unfold escB; split <;> simp
    simp only [esc, List.flatMap_cons, List.length_append, List.length_cons] at ih ⊢
    omega
theorem esc_succ (xs : List UInt8) (i : Nat) (hi : i < xs.length) : esc (xs.take (i + 1)) = esc (xs.take i) ++ escB xs[i] := by
  rw [List.take_succ_eq_append_getElem hi, esc, List.flatMap_append]; simp [esc]
theorem eql192 (x : UInt8) : binV .eql (u8v x) (.int .u8 192) = some (.bool (x == 192)) := u8_eql x 192
theorem eql193 (x : UInt8) : binV .eql (u8v x) (.int .u8 193) = some (.bool (x == 193)) := u8_eql x 193
theorem eql125 (x : UInt8) : binV .eql (u8v x) (.int .u8 125) = some (.bool (x == 125)) := u8_eql x 125
theorem xor32 (x : UInt8) : binV .xor (u8v x) (.int .u8 32) = some (u8v (x ^^^ 32)) := b8_xor x 32
theorem esc_app {s0 s : St} {o : AV} {xs : List UInt8} (h : Own s0 s o xs) (e : Ext s0 s) (hl : xs.length ≤ 900000000) (x : UInt8) :
    (∃ z s', appV false 1 1 (s.new (.tick 1 0)) o (.sl [.int .u8 125, u8v (x ^^^ 32)] 2 (some (s.next, 0, 1))) = some (z, s') ∧ Own s0 s' z (xs ++ [125, x ^^^ 32]) ∧ Ext s0 s') ∧
    (∃ z s', appV false 1 1 (s.new (.tick 1 0)) o (.sl [u8v x] 1 (some (s.next, 0, 1))) = some (z, s') ∧ Own s0 s' z (xs ++ [x]) ∧ Ext s0 s') := by
  have h' := h.ext ((Ext.refl s).new (.tick 1 0))
  exact ⟨h'.app (Own.mk s0 s e [125, x ^^^ 32] [.int .u8 125, u8v (x ^^^ 32)] rfl 2 rfl).bys (e.new _) (by simp; omega),
    h'.app (Own.mk s0 s e [x] [u8v x] rfl 1 rfl).bys (e.new _) (by simp; omega)⟩
def E31 (o x : AV) (n i : Int) : Env := [.undef, .undef, .undef, o, .undef, .undef, x, .int .i64 n, .int .i64 i] ++ List.replicate 24 .undef
theorem round31 (call : Calls') (k : Nat) {x : AV} {xs : List UInt8} (hx : Bys x xs) (i : Nat) (hi : i < xs.length) (hl : xs.length ≤ 1000000) (s0 s : St) (o : AV) (ho : Own s0 s o (esc (xs.take i))) (he : Ext s0 s) :
    ∃ e' s' o', evC tabGl call k M128b0 (E31 o x xs.length i) s = some (.nrm, e', s') ∧ maskE M128b0l e' = E31 o' x xs.length (i + 1 : Nat) ∧ Own s0 s' o' (esc (xs.take (i + 1))) ∧ Ext s0 s' := by
  have h1 : ((i : Int) < (xs.length : Int)) = True := eq_true (by omega)
  have h2 : IntKind.i64.wrap ((i : Int) + 1) = ((i + 1 : Nat) : Int) := by rw [IntKind.wrap_i64]; omega
  have hlen : (esc (xs.take i)).length ≤ 900000000 := by have := esc_length (xs.take i); simp at this; omega
  obtain ⟨⟨z1, s1, a1, a2, a3⟩, ⟨z2, s2, b1, b2, b3⟩⟩ := esc_app ho he hlen xs[i]
  rw [esc_succ xs i hi]
  cases hc : (xs[i] == 192 || xs[i] == 193 || xs[i] == 125) with
  | true =>
    have : escB xs[i] = [125, xs[i] ^^^ 32] := by unfold escB; rw [if_pos hc]
    rw [this]
    have key : ∃ e', evC tabGl call k M128b0 (E31 o x xs.length i) s = some (.nrm, e', s1) ∧ maskE M128b0l e' = E31 z1 x xs.length (i + 1 : Nat) := by
      cases c1 : (xs[i] == 192) <;> cases c2 : (xs[i] == 193) <;> cases c3 : (xs[i] == 125) <;> simp [c1, c2, c3] at hc
      all_goals
        refine ⟨_, Eq.trans (b := some (Ex.nrm, ?_, s1)) ?_ rfl, ?_⟩
        case refine_2 =>
          simp only [M128b0, M128r0, E31, h1, h2, hx.ixa i hi, cut_bytes xs i hi, eql192, eql193, eql125, xor32, c1, c2, c3, a1, env0, List.length_cons, List.length_nil, Nat.reduceAdd, Nat.reduceSub, List.replicate, List.cons_append, List.nil_append, evC_seq, evC_reg, evC_skip, evC_exit, evC_ret, evC_block, evC_condX, condX_true, condX_false, evOps_nil, evOps_one, contR_some, evOps_gd, gdR_tt, gdR_ft, gdR_tf, gdR_ff, gdR_un, bq_true, bq_false, ev1_mv, ev1_pick, ev1_bin, ev1_eqv, ev1_un, un_not, ev1_mki, ev1_slc, ev1_lenV, ev1_ixaV, ev1_appV, ev1_load, ev1_call, ev1_mn, ev1_mx, ev1_conv, ev1_alloc, ev1_storeV, ev1_bslR, bslR_sl, bslR_hs, fill_nil, fill_cons, fill1_u8a, fill1_u8b, fill1_ca, fill1_cb, thenO_some, loadR_rp, opd, Env.put, Env.at, seqR_nrm, seqR_exit, seqR_ret, regR_some, List.set_cons_zero, List.set_cons_succ, List.getD_cons_zero, List.getD_cons_succ, pR_some, wR_some, callR_some, freezeL, freeze_int, freeze_bool, freeze_str, freeze_u16, freeze_u8, freeze_ptr, freeze_nils, boolR_true, boolR_false, blockR_nrm, blockR_exit, blockR_ret, outR_ret, outR_nrm, resVs, resV_tmp, oneOr, Option.map_some, Option.map_none, List.map_cons, List.map_nil, if_true, if_false, Bool.not_true, Bool.not_false, Bool.false_eq_true, reduceIte, decide_true, decide_false, i64_lss, i64_leq, i64_gtr, i64_geq, i64_eql, i64_neq, i64_add, i64_sub]
          rfl
        case refine_3 => rfl
    obtain ⟨e', k1, k2⟩ := key
    exact ⟨e', s1, z1, k1, k2, a2, a3⟩
  | false =>
    have : escB xs[i] = [xs[i]] := by unfold escB; rw [if_neg (by rw [hc]; decide)]
    rw [this]
    have key : ∃ e', evC tabGl call k M128b0 (E31 o x xs.length i) s = some (.nrm, e', s2) ∧ maskE M128b0l e' = E31 z2 x xs.length (i + 1 : Nat) := by
      cases c1 : (xs[i] == 192) <;> cases c2 : (xs[i] == 193) <;> cases c3 : (xs[i] == 125) <;> simp [c1, c2, c3] at hc
      all_goals
        refine ⟨_, Eq.trans (b := some (Ex.nrm, ?_, s2)) ?_ rfl, ?_⟩
        case refine_2 =>
          simp only [M128b0, M128r0, E31, h1, h2, hx.ixa i hi, cut_bytes xs i hi, eql192, eql193, eql125, xor32, c1, c2, c3, b1, env0, List.length_cons, List.length_nil, Nat.reduceAdd, Nat.reduceSub, List.replicate, List.cons_append, List.nil_append, evC_seq, evC_reg, evC_skip, evC_exit, evC_ret, evC_block, evC_condX, condX_true, condX_false, evOps_nil, evOps_one, contR_some, evOps_gd, gdR_tt, gdR_ft, gdR_tf, gdR_ff, gdR_un, bq_true, bq_false, ev1_mv, ev1_pick, ev1_bin, ev1_eqv, ev1_un, un_not, ev1_mki, ev1_slc, ev1_lenV, ev1_ixaV, ev1_appV, ev1_load, ev1_call, ev1_mn, ev1_mx, ev1_conv, ev1_alloc, ev1_storeV, ev1_bslR, bslR_sl, bslR_hs, fill_nil, fill_cons, fill1_u8a, fill1_u8b, fill1_ca, fill1_cb, thenO_some, loadR_rp, opd, Env.put, Env.at, seqR_nrm, seqR_exit, seqR_ret, regR_some, List.set_cons_zero, List.set_cons_succ, List.getD_cons_zero, List.getD_cons_succ, pR_some, wR_some, callR_some, freezeL, freeze_int, freeze_bool, freeze_str, freeze_u16, freeze_u8, freeze_ptr, freeze_nils, boolR_true, boolR_false, blockR_nrm, blockR_exit, blockR_ret, outR_ret, outR_nrm, resVs, resV_tmp, oneOr, Option.map_some, Option.map_none, List.map_cons, List.map_nil, if_true, if_false, Bool.not_true, Bool.not_false, Bool.false_eq_true, reduceIte, decide_true, decide_false, i64_lss, i64_leq, i64_gtr, i64_geq, i64_eql, i64_neq, i64_add, i64_sub]
          rfl
        case refine_3 => rfl
    obtain ⟨e', k1, k2⟩ := key
    exact ⟨e', s2, z2, k1, k2, b2, b3⟩
theorem escape_ev {x : AV} {xs : List UInt8} (hx : Bys x xs) (k : Nat) (hk : xs.length < k) (hl : xs.length ≤ 1000000) (s : St) :
    ∃ y s', ev2 (k + 1) 128 [x] s = some (y, s') ∧ Own s s' y (esc xs) ∧ Ext s s' := by
  have off : ∀ o s', evC tabGl (ev2 k) k M128b0 (E31 o x xs.length xs.length) s' = some (.exit 0, (E31 o x xs.length xs.length).set 9 (.bool false), s') := by
    intro o s'
    simp only [M128b0, M128r0, E31, Int.lt_irrefl, env0, List.length_cons, List.length_nil, Nat.reduceAdd, Nat.reduceSub, List.replicate, List.cons_append, List.nil_append, evC_seq, evC_reg, evC_skip, evC_exit, evC_ret, evC_block, evC_condX, condX_true, condX_false, evOps_nil, evOps_one, contR_some, evOps_gd, gdR_tt, gdR_ft, gdR_tf, gdR_ff, gdR_un, bq_true, bq_false, ev1_mv, ev1_pick, ev1_bin, ev1_eqv, ev1_un, un_not, ev1_mki, ev1_slc, ev1_lenV, ev1_ixaV, ev1_appV, ev1_load, ev1_call, ev1_mn, ev1_mx, ev1_conv, ev1_alloc, ev1_storeV, ev1_bslR, bslR_sl, bslR_hs, fill_nil, fill_cons, fill1_u8a, fill1_u8b, fill1_ca, fill1_cb, thenO_some, loadR_rp, opd, Env.put, Env.at, seqR_nrm, seqR_exit, seqR_ret, regR_some, List.set_cons_zero, List.set_cons_succ, List.getD_cons_zero, List.getD_cons_succ, pR_some, wR_some, callR_some, freezeL, freeze_int, freeze_bool, freeze_str, freeze_u16, freeze_u8, freeze_ptr, freeze_nils, boolR_true, boolR_false, blockR_nrm, blockR_exit, blockR_ret, outR_ret, outR_nrm, resVs, resV_tmp, oneOr, Option.map_some, Option.map_none, List.map_cons, List.map_nil, if_true, if_false, Bool.not_true, Bool.not_false, Bool.false_eq_true, reduceIte, decide_true, decide_false, i64_lss, i64_leq, i64_gtr, i64_geq, i64_eql, i64_neq, i64_add, i64_sub]
  have key := iter_leave (evC tabGl (ev2 k) k M128b0) M128b0l (fun i e' s' => ∃ o, maskE M128b0l e' = E31 o x xs.length (i : Nat) ∧ Own s s' o (esc (xs.take i)) ∧ Ext s s')
    (fun r => ∃ o s', r = some (.exit 0, (E31 o x xs.length xs.length).set 9 (.bool false), s') ∧ Own s s' o (esc xs) ∧ Ext s s') xs.length ?_ ?_ xs.length 0 (E31 .nils x xs.length 0) s k (by omega) ⟨.nils, rfl, Own.nil s s, Ext.refl s⟩ hk
  · obtain ⟨o, s', k1, k2, k3⟩ := key
    refine ⟨o, s', ?_, k2, k3⟩
    rw [ev2_in rfl tab128]
    simp only [M128, hx.len, evC_loop, env0, List.length_cons, List.length_nil, Nat.reduceAdd, Nat.reduceSub, List.replicate, List.cons_append, List.nil_append, evC_seq, evC_reg, evC_skip, evC_exit, evC_ret, evC_block, evC_condX, condX_true, condX_false, evOps_nil, evOps_one, contR_some, evOps_gd, gdR_tt, gdR_ft, gdR_tf, gdR_ff, gdR_un, bq_true, bq_false, ev1_mv, ev1_pick, ev1_bin, ev1_eqv, ev1_un, un_not, ev1_mki, ev1_slc, ev1_lenV, ev1_ixaV, ev1_appV, ev1_load, ev1_call, ev1_mn, ev1_mx, ev1_conv, ev1_alloc, ev1_storeV, ev1_bslR, bslR_sl, bslR_hs, fill_nil, fill_cons, fill1_u8a, fill1_u8b, fill1_ca, fill1_cb, thenO_some, loadR_rp, opd, Env.put, Env.at, seqR_nrm, seqR_exit, seqR_ret, regR_some, List.set_cons_zero, List.set_cons_succ, List.getD_cons_zero, List.getD_cons_succ, pR_some, wR_some, callR_some, freezeL, freeze_int, freeze_bool, freeze_str, freeze_u16, freeze_u8, freeze_ptr, freeze_nils, boolR_true, boolR_false, blockR_nrm, blockR_exit, blockR_ret, outR_ret, outR_nrm, resVs, resV_tmp, oneOr, Option.map_some, Option.map_none, List.map_cons, List.map_nil, if_true, if_false, Bool.not_true, Bool.not_false, Bool.false_eq_true, reduceIte, decide_true, decide_false, i64_lss, i64_leq, i64_gtr, i64_geq, i64_eql, i64_neq, i64_add, i64_sub]
    have key' : ∀ e, maskE M128b0l e = E31 .nils x xs.length 0 → iter (evC tabGl (ev2 k) k M128b0) M128b0l k e s = some (.exit 0, (E31 o x xs.length xs.length).set 9 (.bool false), s') :=
      fun e he => by rw [iter_mask _ _ _ e (E31 .nils x xs.length 0) _ (he.trans rfl), k1]
    rw [key' _ rfl]
    simp only [M128r0, E31, k2.bys.freeze, env0, List.length_cons, List.length_nil, Nat.reduceAdd, Nat.reduceSub, List.replicate, List.cons_append, List.nil_append, evC_seq, evC_reg, evC_skip, evC_exit, evC_ret, evC_block, evC_condX, condX_true, condX_false, evOps_nil, evOps_one, contR_some, evOps_gd, gdR_tt, gdR_ft, gdR_tf, gdR_ff, gdR_un, bq_true, bq_false, ev1_mv, ev1_pick, ev1_bin, ev1_eqv, ev1_un, un_not, ev1_mki, ev1_slc, ev1_lenV, ev1_ixaV, ev1_appV, ev1_load, ev1_call, ev1_mn, ev1_mx, ev1_conv, ev1_alloc, ev1_storeV, ev1_bslR, bslR_sl, bslR_hs, fill_nil, fill_cons, fill1_u8a, fill1_u8b, fill1_ca, fill1_cb, thenO_some, loadR_rp, opd, Env.put, Env.at, seqR_nrm, seqR_exit, seqR_ret, regR_some, List.set_cons_zero, List.set_cons_succ, List.getD_cons_zero, List.getD_cons_succ, pR_some, wR_some, callR_some, freezeL, freeze_int, freeze_bool, freeze_str, freeze_u16, freeze_u8, freeze_ptr, freeze_nils, boolR_true, boolR_false, blockR_nrm, blockR_exit, blockR_ret, outR_ret, outR_nrm, resVs, resV_tmp, oneOr, Option.map_some, Option.map_none, List.map_cons, List.map_nil, if_true, if_false, Bool.not_true, Bool.not_false, Bool.false_eq_true, reduceIte, decide_true, decide_false, i64_lss, i64_leq, i64_gtr, i64_geq, i64_eql, i64_neq, i64_add, i64_sub]
  · rintro i e' s' hi ⟨o, h, ho, he⟩
    left
    obtain ⟨e2, s2, o2, h1, h2, h3, h4⟩ := round31 (ev2 k) k hx i hi hl s s' o ho he
    exact ⟨e2, s2, by rw [h]; exact h1, o2, h2, h3, h4⟩
  · rintro e' s' ⟨o, h, ho, he⟩
    rw [h, off]
    exact ⟨⟨o, s', rfl, by rwa [List.take_length] at ho, he⟩, fun _ _ => by simp⟩
end Go.Proofs.YtgflghhffmjojaaGreatDoor.wr
namespace Go.Proofs.YtgflghhffmjojaaGreatDoor.wr
open Go Go.Ab
def ahead (e : Int) : Nat := min (max e 0).toNat 10
theorem ahead_le (e : Int) : ahead e ≤ 10 := by unfold ahead; omega
theorem ahead_eq (e : Int) : (if (10 : Int) < (if (0 : Int) > e then (0 : Int) else e) then (10 : Int) else (if (0 : Int) > e then (0 : Int) else e)) = ((ahead e : Nat) : Int) := by
  unfold ahead
  split <;> split <;> omega
def wrapB (b : List UInt8) (e : Int) : List UInt8 := List.replicate (ahead e) 255 ++ [192] ++ esc (crcPut b) ++ [193]
theorem wrap_ev {x : AV} {xs : List UInt8} (hx : Bys x xs) (e : Int) (k : Nat) (hk : xs.length + 10 < k) (hl : xs.length ≤ 100000) (s : St) :
    ∃ y s', ev2 (k + 31) 79 [x, .int .i64 e] s = some (y, s') ∧ Own s s' y (wrapB xs e) ∧ Ext s s' := by
  have hn := ahead_le e
  obtain ⟨s1, r1, r2⟩ := repeat_ev (k + 24) (ahead e) hn (by omega) (some (s.next, 0, 1)) (s.new (.tick 1 0))
  have e1 : Ext s s1 := ((Ext.refl s).new _).trans r2
  have b0 : Bys (.sl (bytesAV (List.replicate (ahead e) 255)) (ahead e) none) (List.replicate (ahead e) 255) := by
    have := Bys.mk (List.replicate (ahead e) 255) none
    rwa [List.length_replicate] at this
  obtain ⟨y2, s2, p1, p2, p3⟩ := put_ev hx k (by omega) (by omega) (s1.new (.tick 1 0))
  have hpl := crcPut_length xs
  obtain ⟨y3, s3, q1, q2, q3⟩ := escape_ev p2.bys (k + 29) (by omega) (by omega) s2
  have hel := esc_length (crcPut xs)
  have e3 : Ext s s3 := ((e1.new _).trans p3).trans q3
  have b1 : Bys (.sl [.int .u8 192] 1 (some (s1.next, 0, 1))) [192] := Bys.mk [192] (some (s1.next, 0, 1))
  have b3 : Bys (.sl [.int .u8 193] 1 (some (s3.next, 0, 1))) [193] := Bys.mk [193] (some (s3.next, 0, 1))
  have all : AllBys [.sl (bytesAV (List.replicate (ahead e) 255)) (ahead e) none, .sl [.int .u8 192] 1 (some (s1.next, 0, 1)), y3, .sl [.int .u8 193] 1 (some (s3.next, 0, 1))] [List.replicate (ahead e) 255, [192], esc (crcPut xs), [193]] := ⟨b0, b1, q2.bys, b3, trivial⟩
  have flat : [List.replicate (ahead e) 255, [192], esc (crcPut xs), [193]].flatten = wrapB xs e := by simp [wrapB]
  obtain ⟨y4, s4, c1, c2, c3⟩ := concat_ev all (by simp; omega) (by simp) (some ((s3.new (.tick 1 0)).next, 0, 1)) (k + 28) (by simp) ((s3.new (.tick 1 0)).new (.tick 1 0))
  rw [flat] at c2
  refine ⟨y4, s4, ?_, c2.low (by have := e3.le; simp [St.new]; omega), ((e3.new _).new _).trans c3⟩
  rw [show k + 31 = (k + 30) + 1 from rfl, ev2_in rfl tab79]
  have f0 := fun a b c d => b0.fill1 [a, b, c, d] 0 (by simp)
  have f1 := fun a b c d => b1.fill1 [a, b, c, d] 1 (by simp)
  have f2 := fun a b c d => q2.bys.fill1 [a, b, c, d] 2 (by simp)
  have f3 := fun a b c d => b3.fill1 [a, b, c, d] 3 (by simp)
  simp only [List.length_cons, List.length_nil, Nat.reduceAdd] at c1
  simp only [M79, isNum, foldV, mnV, mxV, evP, ahead_eq, freeze_sl, r1, hx.freeze, p1, p2.bys.freeze, q1, f0, f1, f2, f3, c1, c2.bys.freeze, env0, List.length_cons, List.length_nil, Nat.reduceAdd, Nat.reduceSub, List.replicate, List.cons_append, List.nil_append, evC_seq, evC_reg, evC_skip, evC_exit, evC_ret, evC_block, evC_condX, condX_true, condX_false, evOps_nil, evOps_one, contR_some, evOps_gd, gdR_tt, gdR_ft, gdR_tf, gdR_ff, gdR_un, bq_true, bq_false, ev1_mv, ev1_pick, ev1_bin, ev1_eqv, ev1_un, un_not, ev1_mki, ev1_slc, ev1_lenV, ev1_ixaV, ev1_appV, ev1_load, ev1_call, ev1_mn, ev1_mx, ev1_conv, ev1_alloc, ev1_storeV, ev1_bslR, bslR_sl, bslR_hs, fill_nil, fill_cons, fill1_u8a, fill1_u8b, fill1_ca, fill1_cb, thenO_some, loadR_rp, opd, Env.put, Env.at, seqR_nrm, seqR_exit, seqR_ret, regR_some, List.set_cons_zero, List.set_cons_succ, List.getD_cons_zero, List.getD_cons_succ, pR_some, wR_some, callR_some, freezeL, freeze_int, freeze_bool, freeze_str, freeze_u16, freeze_u8, freeze_ptr, freeze_nils, boolR_true, boolR_false, blockR_nrm, blockR_exit, blockR_ret, outR_ret, outR_nrm, resVs, resV_tmp, oneOr, Option.map_some, Option.map_none, List.map_cons, List.map_nil, if_true, if_false, Bool.not_true, Bool.not_false, Bool.false_eq_true, reduceIte, decide_true, decide_false, i64_lss, i64_leq, i64_gtr, i64_geq, i64_eql, i64_neq, i64_add, i64_sub]
end Go.Proofs.YtgflghhffmjojaaGreatDoor.wr
