/- What is written as UTF-8 is read again. No conditions. -/
import Derived.Test.YthcblggiojpmcaaDoorAb0
import Derived.Test.YthcblggiojpmcaaDoorM4g
import Derived.Test.YthcblggiojpmcaaDoorPtr
set_option linter.unusedSimpArgs false
namespace Go.Ab
open Go
/-- The rune that a rune is written as. -/
def runeOf (r : Int) : Nat := if Utf8.valid r = true then r.toNat else 65533
theorem runeOf_valid (r : Int) : runeOf r < 55296 ∨ (57344 ≤ runeOf r ∧ runeOf r ≤ 1114111) := by
  unfold runeOf
  split
  · rename_i h
    simp only [Utf8.valid, Bool.or_eq_true, Bool.and_eq_true, decide_eq_true_eq] at h
    omega
  · omega
theorem valid_rune (c : Nat) (h : c < 55296 ∨ (57344 ≤ c ∧ c ≤ 1114111)) : Utf8.valid (c : Int) = true := by
  simp only [Utf8.valid, Bool.or_eq_true, Bool.and_eq_true, decide_eq_true_eq]
  omega
theorem dec_enc (r : Int) : Utf8.decode (Utf8.encode r) 0 = (runeOf r, (Utf8.encode r).size) := by
  have hv := runeOf_valid r
  have he : Utf8.encode r = (if runeOf r < 0x80 then ⟨#[UInt8.ofNat (runeOf r)]⟩
    else if runeOf r < 0x800 then ⟨#[UInt8.ofNat (0xC0 + runeOf r / 64), UInt8.ofNat (0x80 + runeOf r % 64)]⟩
    else if runeOf r < 0x10000 then ⟨#[UInt8.ofNat (0xE0 + runeOf r / 4096), UInt8.ofNat (0x80 + runeOf r / 64 % 64), UInt8.ofNat (0x80 + runeOf r % 64)]⟩
    else ⟨#[UInt8.ofNat (0xF0 + runeOf r / 262144), UInt8.ofNat (0x80 + runeOf r / 4096 % 64), UInt8.ofNat (0x80 + runeOf r / 64 % 64), UInt8.ofNat (0x80 + runeOf r % 64)]⟩) := rfl
  rw [he]
  generalize runeOf r = c at hv
  have un : ∀ n, n < 256 → (UInt8.ofNat n).toNat = n := fun n hn => by simp [UInt8.toNat_ofNat']; omega
  have g10 : ∀ a : UInt8, (⟨#[a]⟩ : ByteArray).get! (0 + 0) = a := fun a => rfl
  have g20 : ∀ a b : UInt8, (⟨#[a, b]⟩ : ByteArray).get! (0 + 0) = a := fun a b => rfl
  have g21 : ∀ a b : UInt8, (⟨#[a, b]⟩ : ByteArray).get! (0 + 1) = b := fun a b => rfl
  have g30 : ∀ a b d : UInt8, (⟨#[a, b, d]⟩ : ByteArray).get! (0 + 0) = a := fun a b d => rfl
  have g31 : ∀ a b d : UInt8, (⟨#[a, b, d]⟩ : ByteArray).get! (0 + 1) = b := fun a b d => rfl
  have g32 : ∀ a b d : UInt8, (⟨#[a, b, d]⟩ : ByteArray).get! (0 + 2) = d := fun a b d => rfl
  have g40 : ∀ a b d e : UInt8, (⟨#[a, b, d, e]⟩ : ByteArray).get! (0 + 0) = a := fun a b d e => rfl
  have g41 : ∀ a b d e : UInt8, (⟨#[a, b, d, e]⟩ : ByteArray).get! (0 + 1) = b := fun a b d e => rfl
  have g42 : ∀ a b d e : UInt8, (⟨#[a, b, d, e]⟩ : ByteArray).get! (0 + 2) = d := fun a b d e => rfl
  have g43 : ∀ a b d e : UInt8, (⟨#[a, b, d, e]⟩ : ByteArray).get! (0 + 3) = e := fun a b d e => rfl
  have s1 : ∀ a : UInt8, (⟨#[a]⟩ : ByteArray).size = 1 := fun a => rfl
  have s2 : ∀ a b : UInt8, (⟨#[a, b]⟩ : ByteArray).size = 2 := fun a b => rfl
  have s3 : ∀ a b d : UInt8, (⟨#[a, b, d]⟩ : ByteArray).size = 3 := fun a b d => rfl
  have s4 : ∀ a b d e : UInt8, (⟨#[a, b, d, e]⟩ : ByteArray).size = 4 := fun a b d e => rfl
  by_cases h1 : c < 0x80
  · rw [if_pos h1]
    unfold Utf8.decode
    simp only [g10, s1, un c (by omega), h1, if_true]
  by_cases h2 : c < 0x800
  · rw [if_neg h1, if_pos h2]
    have u0 := un (0xC0 + c / 64) (by omega)
    have u1 := un (0x80 + c % 64) (by omega)
    unfold Utf8.decode
    simp only [g20, g21, s2, u0, u1]
    have a1 : ¬ (0xC0 + c / 64 < 0x80) := by omega
    have a2 : ((0xC0 + c / 64) / 32 == 6) = true := by rw [beq_iff_eq]; omega
    have a3 : ((0x80 + c % 64) / 64 == 2) = true := by rw [beq_iff_eq]; omega
    have a4 : (0xC0 + c / 64) % 32 * 64 + (0x80 + c % 64) % 64 = c := by omega
    have d1 : decide (0 + 1 < 2) = true := rfl
    have a6 : (c ≥ 0x80) = True := eq_true (by omega)
    simp only [a1, a2, a3, a4, a6, d1, if_false, if_true, Bool.true_and, Bool.and_true, Bool.and_self]
  by_cases h3 : c < 0x10000
  · rw [if_neg h1, if_neg h2, if_pos h3]
    have u0 := un (0xE0 + c / 4096) (by omega)
    have u1 := un (0x80 + c / 64 % 64) (by omega)
    have u2 := un (0x80 + c % 64) (by omega)
    unfold Utf8.decode
    simp only [g30, g31, g32, s3, u0, u1, u2]
    have a1 : ¬ (0xE0 + c / 4096 < 0x80) := by omega
    have a2 : ((0xE0 + c / 4096) / 32 == 6) = false := by rw [beq_eq_false_iff_ne]; omega
    have a2' : ((0xE0 + c / 4096) / 16 == 14) = true := by rw [beq_iff_eq]; omega
    have a3 : ((0x80 + c / 64 % 64) / 64 == 2) = true := by rw [beq_iff_eq]; omega
    have a3' : ((0x80 + c % 64) / 64 == 2) = true := by rw [beq_iff_eq]; omega
    have a4 : (0xE0 + c / 4096) % 16 * 4096 + (0x80 + c / 64 % 64) % 64 * 64 + (0x80 + c % 64) % 64 = c := by omega
    have a5 := valid_rune c hv
    have d1 : decide (0 + 1 < 3) = true := rfl
    have d2 : decide (0 + 2 < 3) = true := rfl
    have a6 : decide (c ≥ 0x800) = true := decide_eq_true (by omega)
    simp only [a1, a2, a2', a3, a3', a4, a5, a6, d1, d2, if_false, if_true, Bool.true_and, Bool.and_true, Bool.and_self, Bool.false_and, Bool.false_eq_true]
  · rw [if_neg h1, if_neg h2, if_neg h3]
    have u0 := un (0xF0 + c / 262144) (by omega)
    have u1 := un (0x80 + c / 4096 % 64) (by omega)
    have u2 := un (0x80 + c / 64 % 64) (by omega)
    have u3 := un (0x80 + c % 64) (by omega)
    unfold Utf8.decode
    simp only [g40, g41, g42, g43, s4, u0, u1, u2, u3]
    have a1 : ¬ (0xF0 + c / 262144 < 0x80) := by omega
    have a2 : ((0xF0 + c / 262144) / 32 == 6) = false := by rw [beq_eq_false_iff_ne]; omega
    have a2' : ((0xF0 + c / 262144) / 16 == 14) = false := by rw [beq_eq_false_iff_ne]; omega
    have a2'' : ((0xF0 + c / 262144) / 8 == 30) = true := by rw [beq_iff_eq]; omega
    have a3 : ((0x80 + c / 4096 % 64) / 64 == 2) = true := by rw [beq_iff_eq]; omega
    have a3' : ((0x80 + c / 64 % 64) / 64 == 2) = true := by rw [beq_iff_eq]; omega
    have a3'' : ((0x80 + c % 64) / 64 == 2) = true := by rw [beq_iff_eq]; omega
    have a4 : (0xF0 + c / 262144) % 8 * 262144 + (0x80 + c / 4096 % 64) % 64 * 4096 + (0x80 + c / 64 % 64) % 64 * 64 + (0x80 + c % 64) % 64 = c := by omega
    have a5 := valid_rune c hv
    have d1 : decide (0 + 1 < 4) = true := rfl
    have d2 : decide (0 + 2 < 4) = true := rfl
    have d3 : decide (0 + 3 < 4) = true := rfl
    have a6 : decide (c ≥ 0x10000) = true := decide_eq_true (by omega)
    simp only [a1, a2, a2', a2'', a3, a3', a3'', a4, a5, a6, d1, d2, d3, if_false, if_true, Bool.true_and, Bool.and_true, Bool.and_self, Bool.false_and, Bool.false_eq_true]
end Go.Ab
/- nick.Kind and the reference's, as the evaluator answers them. No conditions. -/
set_option linter.unusedSimpArgs false
namespace Go.Ab
open Go
theorem i32_geq (a b : Int) : binV .geq (.int .i32 a) (.int .i32 b) = some (.bool (decide (a ≥ b))) := rfl
theorem i32_leq (a b : Int) : binV .leq (.int .i32 a) (.int .i32 b) = some (.bool (decide (a ≤ b))) := rfl
theorem i32_lss (a b : Int) : binV .lss (.int .i32 a) (.int .i32 b) = some (.bool (decide (a < b))) := rfl
theorem i32_gtr (a b : Int) : binV .gtr (.int .i32 a) (.int .i32 b) = some (.bool (decide (a > b))) := rfl
theorem i32_neq (a b : Int) : binV .neq (.int .i32 a) (.int .i32 b) = some (.bool (a != b)) := rfl
end Go.Ab
namespace Go.Proofs.YthcblggiojpmcaaDoor
open Go Go.Ab
def kindOf (r : Int) : Int :=
  if (97 ≤ r ∧ r ≤ 122) ∨ (65 ≤ r ∧ r ≤ 90) then 1 else if 48 ≤ r ∧ r ≤ 57 then 2 else if 32 ≤ r ∧ r ≤ 126 then 3 else if 160 ≤ r ∧ r ≠ 65533 ∧ Utf8.valid r = true then 4 else 0
theorem regions (r : Int) : r < 0 ∨ (0 ≤ r ∧ r ≤ 31) ∨ (32 ≤ r ∧ r ≤ 47) ∨ (48 ≤ r ∧ r ≤ 57) ∨ (58 ≤ r ∧ r ≤ 64) ∨ (65 ≤ r ∧ r ≤ 90) ∨ (91 ≤ r ∧ r ≤ 96) ∨ (97 ≤ r ∧ r ≤ 122) ∨ (123 ≤ r ∧ r ≤ 126) ∨ (127 ≤ r ∧ r ≤ 159) ∨
    (160 ≤ r ∧ r ≤ 55295) ∨ (55296 ≤ r ∧ r ≤ 57343) ∨ (57344 ≤ r ∧ r ≤ 65532) ∨ r = 65533 ∨ (65534 ≤ r ∧ r ≤ 1114111) ∨ 1114112 ≤ r := by omega
theorem valid_ev (k : Nat) (r : Int) (s : St) : evT (k + 1) 66 [.int .i32 r] s = some (.bool (Utf8.valid r), s) := by
  rw [evT_in rfl tab66]
  have hvv : Utf8.valid r = decide ((0 ≤ r ∧ r < 55296) ∨ (57344 ≤ r ∧ r ≤ 1114111)) := by
    unfold Utf8.valid
    rw [Bool.eq_iff_iff]
    simp
  rcases regions r with h | h | h | h | h | h | h | h | h | h | h | h | h | h | h | h
  all_goals
    first | have ge0 : (0 ≤ r) = True := eq_true (by omega) | have ge0 : (0 ≤ r) = False := eq_false (by omega)
    first | have ltS : (r < 55296) = True := eq_true (by omega) | have ltS : (r < 55296) = False := eq_false (by omega)
    first | have gtS : (57343 < r) = True := eq_true (by omega) | have gtS : (57343 < r) = False := eq_false (by omega)
    first | have leM : (r ≤ 1114111) = True := eq_true (by omega) | have leM : (r ≤ 1114111) = False := eq_false (by omega)
    first | have lt0 : (r < 0) = True := eq_true (by omega) | have lt0 : (r < 0) = False := eq_false (by omega)
    first | have ge0' : (r ≥ 0) = True := eq_true (by omega) | have ge0' : (r ≥ 0) = False := eq_false (by omega)
    first | have gtS' : (r > 57343) = True := eq_true (by omega) | have gtS' : (r > 57343) = False := eq_false (by omega)
    first | have vl : Utf8.valid r = true := (by rw [hvv, decide_eq_true_eq]; omega) | have vl : Utf8.valid r = false := (by rw [hvv, decide_eq_false_iff_not]; omega)
    simp only [M66, i32_geq, i32_leq, i32_lss, i32_gtr, ge0, ltS, gtS, leM, lt0, ge0', gtS', vl, env0, List.length_cons, List.length_nil, Nat.reduceAdd, Nat.reduceSub, List.replicate, List.cons_append, List.nil_append, evC_seq, evC_reg, evC_skip, evC_exit, evC_ret, evC_block, evC_condX, condX_true, condX_false, evOps_nil, evOps_one, contR_some, evOps_gd, gdR_tt, gdR_ft, gdR_tf, gdR_ff, gdR_un, bq_true, bq_false, ev1_mv, ev1_pick, ev1_bin, ev1_eqv, ev1_un, un_not, ev1_mki, ev1_slc, ev1_lenV, ev1_ixaV, ev1_appV, ev1_load, ev1_call, ev1_mn, ev1_mx, ev1_conv, ev1_alloc, ev1_storeV, ev1_bslR, bslR_sl, bslR_hs, fill_nil, fill_cons, fill1_u8a, fill1_u8b, fill1_ca, fill1_cb, thenO_some, loadR_rp, opd, Env.put, Env.at, seqR_nrm, seqR_exit, seqR_ret, regR_some, List.set_cons_zero, List.set_cons_succ, List.getD_cons_zero, List.getD_cons_succ, pR_some, wR_some, callR_some, freezeL, freeze_int, freeze_bool, freeze_str, freeze_u16, freeze_u8, freeze_ptr, freeze_nils, boolR_true, boolR_false, blockR_nrm, blockR_exit, blockR_ret, outR_ret, outR_nrm, resVs, resV_tmp, oneOr, Option.map_some, Option.map_none, List.map_cons, List.map_nil, if_true, if_false, Bool.not_true, Bool.not_false, Bool.false_eq_true, reduceIte, decide_true, decide_false, i64_lss, i64_leq, i64_gtr, i64_geq, i64_eql, i64_neq, i64_add, i64_sub]
theorem kind_ev (k : Nat) (r : Int) (s : St) : evT (k + 2) 30 [.int .i32 r] s = some (.int .i64 (kindOf r), s) := by
  have hv : ∀ s, evT (k + 1) 66 [.int .i32 r] s = some (.bool (Utf8.valid r), s) := fun s => valid_ev k r s
  rw [show k + 2 = (k + 1) + 1 from rfl, evT_in rfl tab30]
  have hvv : Utf8.valid r = decide ((0 ≤ r ∧ r < 55296) ∨ (57344 ≤ r ∧ r ≤ 1114111)) := by
    unfold Utf8.valid
    rw [Bool.eq_iff_iff]
    simp
  rcases regions r with h | h | h | h | h | h | h | h | h | h | h | h | h | h | h | h
  all_goals
    first | have ge97 : (r ≥ 97) = True := eq_true (by omega) | have ge97 : (r ≥ 97) = False := eq_false (by omega)
    first | have le122 : (r ≤ 122) = True := eq_true (by omega) | have le122 : (r ≤ 122) = False := eq_false (by omega)
    first | have ge65 : (r ≥ 65) = True := eq_true (by omega) | have ge65 : (r ≥ 65) = False := eq_false (by omega)
    first | have le90 : (r ≤ 90) = True := eq_true (by omega) | have le90 : (r ≤ 90) = False := eq_false (by omega)
    first | have ge48 : (r ≥ 48) = True := eq_true (by omega) | have ge48 : (r ≥ 48) = False := eq_false (by omega)
    first | have le57 : (r ≤ 57) = True := eq_true (by omega) | have le57 : (r ≤ 57) = False := eq_false (by omega)
    first | have ge32 : (r ≥ 32) = True := eq_true (by omega) | have ge32 : (r ≥ 32) = False := eq_false (by omega)
    first | have le126 : (r ≤ 126) = True := eq_true (by omega) | have le126 : (r ≤ 126) = False := eq_false (by omega)
    first | have ge160 : (r ≥ 160) = True := eq_true (by omega) | have ge160 : (r ≥ 160) = False := eq_false (by omega)
    first | have ne : (r != 65533) = true := (by simp; omega) | have ne : (r != 65533) = false := (by simp; omega)
    first | have vl : Utf8.valid r = true := (by rw [hvv, decide_eq_true_eq]; omega) | have vl : Utf8.valid r = false := (by rw [hvv, decide_eq_false_iff_not]; omega)
    first | have kl97 : (97 ≤ r) = True := eq_true (by omega) | have kl97 : (97 ≤ r) = False := eq_false (by omega)
    first | have kl65 : (65 ≤ r) = True := eq_true (by omega) | have kl65 : (65 ≤ r) = False := eq_false (by omega)
    first | have kl48 : (48 ≤ r) = True := eq_true (by omega) | have kl48 : (48 ≤ r) = False := eq_false (by omega)
    first | have kl32 : (32 ≤ r) = True := eq_true (by omega) | have kl32 : (32 ≤ r) = False := eq_false (by omega)
    first | have kl160 : (160 ≤ r) = True := eq_true (by omega) | have kl160 : (160 ≤ r) = False := eq_false (by omega)
    first | have kne : (r ≠ 65533) = True := eq_true (by omega) | have kne : (r ≠ 65533) = False := eq_false (by omega)
    simp only [M30, i32_geq, i32_leq, i32_neq, ge97, le122, ge65, le90, ge48, le57, ge32, le126, ge160, ne, vl, kindOf, kl97, kl65, kl48, kl32, kl160, kne, true_and, and_true, false_and, and_false, or_true, true_or, or_false, false_or, and_self, or_self, hv, env0, List.length_cons, List.length_nil, Nat.reduceAdd, Nat.reduceSub, List.replicate, List.cons_append, List.nil_append, evC_seq, evC_reg, evC_skip, evC_exit, evC_ret, evC_block, evC_condX, condX_true, condX_false, evOps_nil, evOps_one, contR_some, evOps_gd, gdR_tt, gdR_ft, gdR_tf, gdR_ff, gdR_un, bq_true, bq_false, ev1_mv, ev1_pick, ev1_bin, ev1_eqv, ev1_un, un_not, ev1_mki, ev1_slc, ev1_lenV, ev1_ixaV, ev1_appV, ev1_load, ev1_call, ev1_mn, ev1_mx, ev1_conv, ev1_alloc, ev1_storeV, ev1_bslR, bslR_sl, bslR_hs, fill_nil, fill_cons, fill1_u8a, fill1_u8b, fill1_ca, fill1_cb, thenO_some, loadR_rp, opd, Env.put, Env.at, seqR_nrm, seqR_exit, seqR_ret, regR_some, List.set_cons_zero, List.set_cons_succ, List.getD_cons_zero, List.getD_cons_succ, pR_some, wR_some, callR_some, freezeL, freeze_int, freeze_bool, freeze_str, freeze_u16, freeze_u8, freeze_ptr, freeze_nils, boolR_true, boolR_false, blockR_nrm, blockR_exit, blockR_ret, outR_ret, outR_nrm, resVs, resV_tmp, oneOr, Option.map_some, Option.map_none, List.map_cons, List.map_nil, if_true, if_false, Bool.not_true, Bool.not_false, Bool.false_eq_true, reduceIte, decide_true, decide_false, i64_lss, i64_leq, i64_gtr, i64_geq, i64_eql, i64_neq, i64_add, i64_sub]
end Go.Proofs.YthcblggiojpmcaaDoor
/- The reference's Kind; Len, May, Plain of one rune, as the evaluator answers them. No conditions. -/
set_option linter.unusedSimpArgs false
namespace Go.Ab
open Go
def encL (r : Int) : List UInt8 := (Utf8.encode r).data.toList
def nxtS (s : St) (b : Nat) : Option Ab.Obj → Option (AV × St)
  | some (.iter l p) => if p < l.length then
          let d := Utf8.decode ⟨l.toArray⟩ p
          some (.tup [.bool true, .int .i64 p, .int .i32 d.1], s.upd b (.iter l (p + d.2)))
        else some (.tup [.bool false], s)
  | _ => none
def nxtV (s : St) : AV → Option (AV × St)
  | .ptr b 0 => nxtS s b (s.get b)
  | _ => none
theorem ev1_nxtV (gl : Nat → AV) (call : Calls') (e : Env) (s : St) (x : Opd) : ev1 gl call e s (.nxt x) = wR (nxtV s (opd gl e x)) := by
  rw [ev1_nxt]
  simp only [evW, nxtV, nxtS]
  generalize opd gl e x = v
  cases v with
  | ptr b o => cases o with
    | zero =>
      simp only
      generalize s.get b = q
      cases q with
      | none => rfl
      | some y => cases y <;> rfl
    | succ o => rfl
  | _ => rfl
theorem nxtV_ptr (s : St) (b : Nat) : nxtV s (.ptr b 0) = nxtS s b (s.get b) := (id rfl)
theorem encL_len (r : Int) : 0 < (encL r).length ∧ (encL r).length ≤ 4 := by
  unfold encL Utf8.encode
  dsimp only
  repeat' split
  all_goals simp
theorem nxt1 (s : St) (b : Nat) (r : Int) : nxtS s b (some (.iter (encL r) 0)) = some (.tup [.bool true, .int .i64 0, .int .i32 (runeOf r)], s.upd b (.iter (encL r) (encL r).length)) := by
  have h : (⟨(encL r).toArray⟩ : ByteArray) = Utf8.encode r := by unfold encL; rfl
  have hs : (Utf8.encode r).size = (encL r).length := by unfold encL; simp
  simp only [nxtS, (encL_len r).1, if_true, h, dec_enc, hs, Nat.zero_add]
  rfl
theorem nxt2 (s : St) (b : Nat) (l : List UInt8) : nxtS s b (some (.iter l l.length)) = some (.tup [.bool false], s) := by
  simp only [nxtS, Nat.lt_irrefl, if_false]
def rngV (s : St) : AV → Option (AV × St)
  | .str l => some (.ptr s.next 0, s.new (.iter l 0))
  | _ => none
theorem ev1_rngV (gl : Nat → AV) (call : Calls') (e : Env) (s : St) (x : Opd) : ev1 gl call e s (.rng x) = wR (rngV s (opd gl e x)) := by
  rw [ev1_rng]
  simp only [evW, rngV]
  generalize opd gl e x = v
  cases v <;> rfl
theorem rngV_str (s : St) (l : List UInt8) : rngV s (.str l) = some (.ptr s.next 0, s.new (.iter l 0)) := (id rfl)
def lensV : AV → Option AV
  | .str l => some (.int .i64 l.length)
  | _ => none
theorem ev1_lensV (gl : Nat → AV) (call : Calls') (e : Env) (s : St) (x : Opd) : ev1 gl call e s (.lens x) = pR s (lensV (opd gl e x)) := by
  rw [ev1_lens]; simp only [evP, lensV]; generalize opd gl e x = v; cases v <;> rfl
theorem lensV_str (l : List UInt8) : lensV (.str l) = some (.int .i64 l.length) := (id rfl)
theorem new_upd' (s : St) (o o' : Ab.Obj) : (s.new o).upd s.next o' = s.new o' := by simp [St.new, St.upd, updH]
theorem two_rounds (f : Env → St → Out) (l : List Bool) (k : Nat) (e e1 e2 : Env) (s s1 s2 : St) (i : Nat) (h1 : f (maskE l e) s = some (.nrm, e1, s1)) (h2 : f (maskE l e1) s1 = some (.exit i, e2, s2)) : iter f l (k + 2) e s = some (.exit i, e2, s2) := by
  rw [show k + 2 = (k + 1) + 1 from rfl, iter_succ, h1, seqR_nrm, iter_succ, h2, seqR_exit]
theorem one_round (f : Env → St → Out) (l : List Bool) (k : Nat) (e e2 : Env) (s s2 : St) (h1 : f (maskE l e) s = some (.ret, e2, s2)) : iter f l (k + 1) e s = some (.ret, e2, s2) := by
  rw [iter_succ, h1, seqR_ret]
end Go.Ab
namespace Go.Proofs.YthcblggiojpmcaaDoor
open Go Go.Ab
theorem valid_iff (r : Int) : Utf8.valid r = decide ((0 ≤ r ∧ r < 55296) ∨ (57344 ≤ r ∧ r ≤ 1114111)) := by
  unfold Utf8.valid
  rw [Bool.eq_iff_iff]
  simp
theorem kind_rune (r : Int) : kindOf (runeOf r : Nat) = kindOf r := by
  unfold runeOf
  cases hv : Utf8.valid r with
  | true =>
    rw [if_pos rfl]
    rw [valid_iff, decide_eq_true_eq] at hv
    congr 1
    omega
  | false =>
    rw [if_neg (by decide)]
    have h0 : kindOf ((65533 : Nat) : Int) = 0 := by decide
    rw [h0]
    have hv' := hv
    rw [valid_iff, decide_eq_false_iff_not] at hv'
    unfold kindOf
    rw [hv]
    simp only [Bool.false_eq_true, and_false, if_false]
    repeat' split
    all_goals first | rfl | omega
theorem len1_ev (k : Nat) (r : Int) (s : St) : ∃ s', evT (k + 3) 24 [.str (encL r)] s = some (.int .i64 1, s') := by
  have r1 : evC tabGl (evT (k + 2)) (k + 2) M24b0 [.undef, .undef, .undef, .int .i64 0, .undef, .ptr s.next 0, .undef, .undef, .undef, .undef, .undef] (s.new (.iter (encL r) 0)) =
      some (.nrm, [.undef, .undef, .undef, .int .i64 1, .undef, .ptr s.next 0, .tup [.bool true, .int .i64 0, .int .i32 (runeOf r)], .bool true, .int .i64 0, .int .i64 1, .undef], s.new (.iter (encL r) (encL r).length)) := by
    have w : IntKind.i64.wrap (0 + 1) = 1 := wrapI _ (by omega) (by omega)
    simp only [M24b0, ev1_nxtV, nxtV_ptr, get_new_eq, nxt1, new_upd', w, env0, List.length_cons, List.length_nil, Nat.reduceAdd, Nat.reduceSub, List.replicate, List.cons_append, List.nil_append, evC_seq, evC_reg, evC_skip, evC_exit, evC_ret, evC_block, evC_condX, condX_true, condX_false, evOps_nil, evOps_one, contR_some, evOps_gd, gdR_tt, gdR_ft, gdR_tf, gdR_ff, gdR_un, bq_true, bq_false, ev1_mv, ev1_pick, ev1_bin, ev1_eqv, ev1_un, un_not, ev1_mki, ev1_slc, ev1_lenV, ev1_ixaV, ev1_appV, ev1_load, ev1_call, ev1_mn, ev1_mx, ev1_conv, ev1_alloc, ev1_storeV, ev1_bslR, bslR_sl, bslR_hs, fill_nil, fill_cons, fill1_u8a, fill1_u8b, fill1_ca, fill1_cb, thenO_some, loadR_rp, opd, Env.put, Env.at, seqR_nrm, seqR_exit, seqR_ret, regR_some, List.set_cons_zero, List.set_cons_succ, List.getD_cons_zero, List.getD_cons_succ, pR_some, wR_some, callR_some, freezeL, freeze_int, freeze_bool, freeze_str, freeze_u16, freeze_u8, freeze_ptr, freeze_nils, boolR_true, boolR_false, blockR_nrm, blockR_exit, blockR_ret, outR_ret, outR_nrm, resVs, resV_tmp, oneOr, Option.map_some, Option.map_none, List.map_cons, List.map_nil, if_true, if_false, Bool.not_true, Bool.not_false, Bool.false_eq_true, reduceIte, decide_true, decide_false, i64_lss, i64_leq, i64_gtr, i64_geq, i64_eql, i64_neq, i64_add, i64_sub, load_ptr, ldV_some, cellAt_cells, List.getElem?_cons_zero, List.getElem?_cons_succ, store_ptr, stO_some, setAt_0, setAt_1, setAt_2, setAt_3, setAt_4, setAt_5, setAt_6, setAt_7, setAt_8, setAt_9, setAt_10, setAt_11, setAt_12, cells_int, cells_bool, cells_str, cells_nils, cells_nilp, cells_ptr, cells_sl, cells_u8, cells_u16, cells_agg, get_upd_is, Option.isSome_some, upd_upd, ev1_nchkV, ev1_faV, nchkV_ptr, faV_ptr, ev1_extV, extV_tup, eqptr_nil, eqptr_ptr, Nat.zero_add, Nat.add_zero]
  have r2 : evC tabGl (evT (k + 2)) (k + 2) M24b0 [.undef, .undef, .undef, .int .i64 1, .undef, .ptr s.next 0, .undef, .undef, .undef, .undef, .undef] (s.new (.iter (encL r) (encL r).length)) =
      some (.exit 0, [.undef, .undef, .undef, .int .i64 1, .undef, .ptr s.next 0, .tup [.bool false], .bool false, .undef, .undef, .undef], s.new (.iter (encL r) (encL r).length)) := by
    simp only [M24b0, ev1_nxtV, nxtV_ptr, get_new_eq, nxt2, env0, List.length_cons, List.length_nil, Nat.reduceAdd, Nat.reduceSub, List.replicate, List.cons_append, List.nil_append, evC_seq, evC_reg, evC_skip, evC_exit, evC_ret, evC_block, evC_condX, condX_true, condX_false, evOps_nil, evOps_one, contR_some, evOps_gd, gdR_tt, gdR_ft, gdR_tf, gdR_ff, gdR_un, bq_true, bq_false, ev1_mv, ev1_pick, ev1_bin, ev1_eqv, ev1_un, un_not, ev1_mki, ev1_slc, ev1_lenV, ev1_ixaV, ev1_appV, ev1_load, ev1_call, ev1_mn, ev1_mx, ev1_conv, ev1_alloc, ev1_storeV, ev1_bslR, bslR_sl, bslR_hs, fill_nil, fill_cons, fill1_u8a, fill1_u8b, fill1_ca, fill1_cb, thenO_some, loadR_rp, opd, Env.put, Env.at, seqR_nrm, seqR_exit, seqR_ret, regR_some, List.set_cons_zero, List.set_cons_succ, List.getD_cons_zero, List.getD_cons_succ, pR_some, wR_some, callR_some, freezeL, freeze_int, freeze_bool, freeze_str, freeze_u16, freeze_u8, freeze_ptr, freeze_nils, boolR_true, boolR_false, blockR_nrm, blockR_exit, blockR_ret, outR_ret, outR_nrm, resVs, resV_tmp, oneOr, Option.map_some, Option.map_none, List.map_cons, List.map_nil, if_true, if_false, Bool.not_true, Bool.not_false, Bool.false_eq_true, reduceIte, decide_true, decide_false, i64_lss, i64_leq, i64_gtr, i64_geq, i64_eql, i64_neq, i64_add, i64_sub, load_ptr, ldV_some, cellAt_cells, List.getElem?_cons_zero, List.getElem?_cons_succ, store_ptr, stO_some, setAt_0, setAt_1, setAt_2, setAt_3, setAt_4, setAt_5, setAt_6, setAt_7, setAt_8, setAt_9, setAt_10, setAt_11, setAt_12, cells_int, cells_bool, cells_str, cells_nils, cells_nilp, cells_ptr, cells_sl, cells_u8, cells_u16, cells_agg, get_upd_is, Option.isSome_some, upd_upd, ev1_nchkV, ev1_faV, nchkV_ptr, faV_ptr, ev1_extV, extV_tup, eqptr_nil, eqptr_ptr, Nat.zero_add, Nat.add_zero]
  refine ⟨s.new (.iter (encL r) (encL r).length), ?_⟩
  rw [show k + 3 = (k + 2) + 1 from rfl, evT_in rfl tab24]
  simp only [M24, ev1_rngV, rngV_str, evC_loop, env0, List.length_cons, List.length_nil, Nat.reduceAdd, Nat.reduceSub, List.replicate, List.cons_append, List.nil_append, evC_seq, evC_reg, evC_skip, evC_exit, evC_ret, evC_block, evC_condX, condX_true, condX_false, evOps_nil, evOps_one, contR_some, evOps_gd, gdR_tt, gdR_ft, gdR_tf, gdR_ff, gdR_un, bq_true, bq_false, ev1_mv, ev1_pick, ev1_bin, ev1_eqv, ev1_un, un_not, ev1_mki, ev1_slc, ev1_lenV, ev1_ixaV, ev1_appV, ev1_load, ev1_call, ev1_mn, ev1_mx, ev1_conv, ev1_alloc, ev1_storeV, ev1_bslR, bslR_sl, bslR_hs, fill_nil, fill_cons, fill1_u8a, fill1_u8b, fill1_ca, fill1_cb, thenO_some, loadR_rp, opd, Env.put, Env.at, seqR_nrm, seqR_exit, seqR_ret, regR_some, List.set_cons_zero, List.set_cons_succ, List.getD_cons_zero, List.getD_cons_succ, pR_some, wR_some, callR_some, freezeL, freeze_int, freeze_bool, freeze_str, freeze_u16, freeze_u8, freeze_ptr, freeze_nils, boolR_true, boolR_false, blockR_nrm, blockR_exit, blockR_ret, outR_ret, outR_nrm, resVs, resV_tmp, oneOr, Option.map_some, Option.map_none, List.map_cons, List.map_nil, if_true, if_false, Bool.not_true, Bool.not_false, Bool.false_eq_true, reduceIte, decide_true, decide_false, i64_lss, i64_leq, i64_gtr, i64_geq, i64_eql, i64_neq, i64_add, i64_sub]
  rw [two_rounds _ _ k _ _ _ _ _ _ 0 r1 r2]
  simp only [env0, List.length_cons, List.length_nil, Nat.reduceAdd, Nat.reduceSub, List.replicate, List.cons_append, List.nil_append, evC_seq, evC_reg, evC_skip, evC_exit, evC_ret, evC_block, evC_condX, condX_true, condX_false, evOps_nil, evOps_one, contR_some, evOps_gd, gdR_tt, gdR_ft, gdR_tf, gdR_ff, gdR_un, bq_true, bq_false, ev1_mv, ev1_pick, ev1_bin, ev1_eqv, ev1_un, un_not, ev1_mki, ev1_slc, ev1_lenV, ev1_ixaV, ev1_appV, ev1_load, ev1_call, ev1_mn, ev1_mx, ev1_conv, ev1_alloc, ev1_storeV, ev1_bslR, bslR_sl, bslR_hs, fill_nil, fill_cons, fill1_u8a, fill1_u8b, fill1_ca, fill1_cb, thenO_some, loadR_rp, opd, Env.put, Env.at, seqR_nrm, seqR_exit, seqR_ret, regR_some, List.set_cons_zero, List.set_cons_succ, List.getD_cons_zero, List.getD_cons_succ, pR_some, wR_some, callR_some, freezeL, freeze_int, freeze_bool, freeze_str, freeze_u16, freeze_u8, freeze_ptr, freeze_nils, boolR_true, boolR_false, blockR_nrm, blockR_exit, blockR_ret, outR_ret, outR_nrm, resVs, resV_tmp, oneOr, Option.map_some, Option.map_none, List.map_cons, List.map_nil, if_true, if_false, Bool.not_true, Bool.not_false, Bool.false_eq_true, reduceIte, decide_true, decide_false, i64_lss, i64_leq, i64_gtr, i64_geq, i64_eql, i64_neq, i64_add, i64_sub]
theorem refKind_ev (k : Nat) (r : Int) (s : St) : evT (k + 1) 31 [.int .i64 r] s = some (.int .i64 (kindOf r), s) := by
  rw [evT_in rfl tab31]
  have hvv := valid_iff r
  rcases regions r with h | h | h | h | h | h | h | h | h | h | h | h | h | h | h | h
  all_goals
    first | have ge97 : (r ≥ 97) = True := eq_true (by omega) | have ge97 : (r ≥ 97) = False := eq_false (by omega)
    first | have le122 : (r ≤ 122) = True := eq_true (by omega) | have le122 : (r ≤ 122) = False := eq_false (by omega)
    first | have ge65 : (r ≥ 65) = True := eq_true (by omega) | have ge65 : (r ≥ 65) = False := eq_false (by omega)
    first | have le90 : (r ≤ 90) = True := eq_true (by omega) | have le90 : (r ≤ 90) = False := eq_false (by omega)
    first | have ge48 : (r ≥ 48) = True := eq_true (by omega) | have ge48 : (r ≥ 48) = False := eq_false (by omega)
    first | have le57 : (r ≤ 57) = True := eq_true (by omega) | have le57 : (r ≤ 57) = False := eq_false (by omega)
    first | have ge32 : (r ≥ 32) = True := eq_true (by omega) | have ge32 : (r ≥ 32) = False := eq_false (by omega)
    first | have le126 : (r ≤ 126) = True := eq_true (by omega) | have le126 : (r ≤ 126) = False := eq_false (by omega)
    first | have ge160 : (r ≥ 160) = True := eq_true (by omega) | have ge160 : (r ≥ 160) = False := eq_false (by omega)
    first | have leM : (r ≤ 1114111) = True := eq_true (by omega) | have leM : (r ≤ 1114111) = False := eq_false (by omega)
    first | have ltS : (r < 55296) = True := eq_true (by omega) | have ltS : (r < 55296) = False := eq_false (by omega)
    first | have gtS : (r > 57343) = True := eq_true (by omega) | have gtS : (r > 57343) = False := eq_false (by omega)
    first | have ne : (r != 65533) = true := (by simp; omega) | have ne : (r != 65533) = false := (by simp; omega)
    first | have vl : Utf8.valid r = true := (by rw [hvv, decide_eq_true_eq]; omega) | have vl : Utf8.valid r = false := (by rw [hvv, decide_eq_false_iff_not]; omega)
    first | have kl97 : (97 ≤ r) = True := eq_true (by omega) | have kl97 : (97 ≤ r) = False := eq_false (by omega)
    first | have kl65 : (65 ≤ r) = True := eq_true (by omega) | have kl65 : (65 ≤ r) = False := eq_false (by omega)
    first | have kl48 : (48 ≤ r) = True := eq_true (by omega) | have kl48 : (48 ≤ r) = False := eq_false (by omega)
    first | have kl32 : (32 ≤ r) = True := eq_true (by omega) | have kl32 : (32 ≤ r) = False := eq_false (by omega)
    first | have kl160 : (160 ≤ r) = True := eq_true (by omega) | have kl160 : (160 ≤ r) = False := eq_false (by omega)
    first | have kne : (r ≠ 65533) = True := eq_true (by omega) | have kne : (r ≠ 65533) = False := eq_false (by omega)
    simp only [M31, ge97, le122, ge65, le90, ge48, le57, ge32, le126, ge160, leM, ltS, gtS, ne, vl, kindOf, kl97, kl65, kl48, kl32, kl160, kne, true_and, and_true, false_and, and_false, or_true, true_or, or_false, false_or, and_self, or_self, env0, List.length_cons, List.length_nil, Nat.reduceAdd, Nat.reduceSub, List.replicate, List.cons_append, List.nil_append, evC_seq, evC_reg, evC_skip, evC_exit, evC_ret, evC_block, evC_condX, condX_true, condX_false, evOps_nil, evOps_one, contR_some, evOps_gd, gdR_tt, gdR_ft, gdR_tf, gdR_ff, gdR_un, bq_true, bq_false, ev1_mv, ev1_pick, ev1_bin, ev1_eqv, ev1_un, un_not, ev1_mki, ev1_slc, ev1_lenV, ev1_ixaV, ev1_appV, ev1_load, ev1_call, ev1_mn, ev1_mx, ev1_conv, ev1_alloc, ev1_storeV, ev1_bslR, bslR_sl, bslR_hs, fill_nil, fill_cons, fill1_u8a, fill1_u8b, fill1_ca, fill1_cb, thenO_some, loadR_rp, opd, Env.put, Env.at, seqR_nrm, seqR_exit, seqR_ret, regR_some, List.set_cons_zero, List.set_cons_succ, List.getD_cons_zero, List.getD_cons_succ, pR_some, wR_some, callR_some, freezeL, freeze_int, freeze_bool, freeze_str, freeze_u16, freeze_u8, freeze_ptr, freeze_nils, boolR_true, boolR_false, blockR_nrm, blockR_exit, blockR_ret, outR_ret, outR_nrm, resVs, resV_tmp, oneOr, Option.map_some, Option.map_none, List.map_cons, List.map_nil, if_true, if_false, Bool.not_true, Bool.not_false, Bool.false_eq_true, reduceIte, decide_true, decide_false, i64_lss, i64_leq, i64_gtr, i64_geq, i64_eql, i64_neq, i64_add, i64_sub]
def E22 (l : AV) (p : Nat) : Env := [l, .undef, .undef, .undef, .undef, .undef, .ptr p 0] ++ List.replicate 9 .undef
theorem may1_ev (k : Nat) (r : Int) (s : St) : ∃ s', evT (k + 4) 22 [.str (encL r)] s = some (.bool (!(kindOf r == 0)), s') := by
  have kd : ∀ s, evT (k + 3) 30 [.int .i32 (runeOf r : Nat)] s = some (.int .i64 (kindOf r), s) := fun s => by rw [← kind_rune r]; exact kind_ev (k + 1) _ s
  rw [show k + 4 = (k + 3) + 1 from rfl, evT_in rfl tab22]
  simp only [M22, ev1_rngV, rngV_str, evC_loop, env0, List.length_cons, List.length_nil, Nat.reduceAdd, Nat.reduceSub, List.replicate, List.cons_append, List.nil_append, evC_seq, evC_reg, evC_skip, evC_exit, evC_ret, evC_block, evC_condX, condX_true, condX_false, evOps_nil, evOps_one, contR_some, evOps_gd, gdR_tt, gdR_ft, gdR_tf, gdR_ff, gdR_un, bq_true, bq_false, ev1_mv, ev1_pick, ev1_bin, ev1_eqv, ev1_un, un_not, ev1_mki, ev1_slc, ev1_lenV, ev1_ixaV, ev1_appV, ev1_load, ev1_call, ev1_mn, ev1_mx, ev1_conv, ev1_alloc, ev1_storeV, ev1_bslR, bslR_sl, bslR_hs, fill_nil, fill_cons, fill1_u8a, fill1_u8b, fill1_ca, fill1_cb, thenO_some, loadR_rp, opd, Env.put, Env.at, seqR_nrm, seqR_exit, seqR_ret, regR_some, List.set_cons_zero, List.set_cons_succ, List.getD_cons_zero, List.getD_cons_succ, pR_some, wR_some, callR_some, freezeL, freeze_int, freeze_bool, freeze_str, freeze_u16, freeze_u8, freeze_ptr, freeze_nils, boolR_true, boolR_false, blockR_nrm, blockR_exit, blockR_ret, outR_ret, outR_nrm, resVs, resV_tmp, oneOr, Option.map_some, Option.map_none, List.map_cons, List.map_nil, if_true, if_false, Bool.not_true, Bool.not_false, Bool.false_eq_true, reduceIte, decide_true, decide_false, i64_lss, i64_leq, i64_gtr, i64_geq, i64_eql, i64_neq, i64_add, i64_sub]
  have hlen : (((encL r).length : Int) ≤ 20) = True := eq_true (by have := (encL_len r).2; omega)
  cases hk : (kindOf r == 0) with
  | true =>
    have r1 : ∃ e1, evC tabGl (evT (k + 3)) (k + 3) M22b0 (E22 (.str (encL r)) s.next) (s.new (.iter (encL r) 0)) = some (.ret, e1, s.new (.iter (encL r) (encL r).length)) ∧ e1.at 2 = .bool false := by
      refine ⟨_, Eq.trans (b := some (Ex.ret, ?_, s.new (.iter (encL r) (encL r).length))) ?_ rfl, ?_⟩
      case refine_2 =>
        simp only [M22b0, E22, ev1_nxtV, nxtV_ptr, get_new_eq, nxt1, new_upd', kd, hk, env0, List.length_cons, List.length_nil, Nat.reduceAdd, Nat.reduceSub, List.replicate, List.cons_append, List.nil_append, evC_seq, evC_reg, evC_skip, evC_exit, evC_ret, evC_block, evC_condX, condX_true, condX_false, evOps_nil, evOps_one, contR_some, evOps_gd, gdR_tt, gdR_ft, gdR_tf, gdR_ff, gdR_un, bq_true, bq_false, ev1_mv, ev1_pick, ev1_bin, ev1_eqv, ev1_un, un_not, ev1_mki, ev1_slc, ev1_lenV, ev1_ixaV, ev1_appV, ev1_load, ev1_call, ev1_mn, ev1_mx, ev1_conv, ev1_alloc, ev1_storeV, ev1_bslR, bslR_sl, bslR_hs, fill_nil, fill_cons, fill1_u8a, fill1_u8b, fill1_ca, fill1_cb, thenO_some, loadR_rp, opd, Env.put, Env.at, seqR_nrm, seqR_exit, seqR_ret, regR_some, List.set_cons_zero, List.set_cons_succ, List.getD_cons_zero, List.getD_cons_succ, pR_some, wR_some, callR_some, freezeL, freeze_int, freeze_bool, freeze_str, freeze_u16, freeze_u8, freeze_ptr, freeze_nils, boolR_true, boolR_false, blockR_nrm, blockR_exit, blockR_ret, outR_ret, outR_nrm, resVs, resV_tmp, oneOr, Option.map_some, Option.map_none, List.map_cons, List.map_nil, if_true, if_false, Bool.not_true, Bool.not_false, Bool.false_eq_true, reduceIte, decide_true, decide_false, i64_lss, i64_leq, i64_gtr, i64_geq, i64_eql, i64_neq, i64_add, i64_sub, load_ptr, ldV_some, cellAt_cells, List.getElem?_cons_zero, List.getElem?_cons_succ, store_ptr, stO_some, setAt_0, setAt_1, setAt_2, setAt_3, setAt_4, setAt_5, setAt_6, setAt_7, setAt_8, setAt_9, setAt_10, setAt_11, setAt_12, cells_int, cells_bool, cells_str, cells_nils, cells_nilp, cells_ptr, cells_sl, cells_u8, cells_u16, cells_agg, get_upd_is, Option.isSome_some, upd_upd, ev1_nchkV, ev1_faV, nchkV_ptr, faV_ptr, ev1_extV, extV_tup, eqptr_nil, eqptr_ptr, Nat.zero_add, Nat.add_zero]
        rfl
      case refine_3 => rfl
    obtain ⟨e1, q1, q2⟩ := r1
    refine ⟨s.new (.iter (encL r) (encL r).length), ?_⟩
    rw [show k + 3 = (k + 2) + 1 from rfl, one_round _ _ (k + 2) _ e1 _ _ q1]
    simp only [Env.at] at q2
    simp only [q2, env0, List.length_cons, List.length_nil, Nat.reduceAdd, Nat.reduceSub, List.replicate, List.cons_append, List.nil_append, evC_seq, evC_reg, evC_skip, evC_exit, evC_ret, evC_block, evC_condX, condX_true, condX_false, evOps_nil, evOps_one, contR_some, evOps_gd, gdR_tt, gdR_ft, gdR_tf, gdR_ff, gdR_un, bq_true, bq_false, ev1_mv, ev1_pick, ev1_bin, ev1_eqv, ev1_un, un_not, ev1_mki, ev1_slc, ev1_lenV, ev1_ixaV, ev1_appV, ev1_load, ev1_call, ev1_mn, ev1_mx, ev1_conv, ev1_alloc, ev1_storeV, ev1_bslR, bslR_sl, bslR_hs, fill_nil, fill_cons, fill1_u8a, fill1_u8b, fill1_ca, fill1_cb, thenO_some, loadR_rp, opd, Env.put, Env.at, seqR_nrm, seqR_exit, seqR_ret, regR_some, List.set_cons_zero, List.set_cons_succ, List.getD_cons_zero, List.getD_cons_succ, pR_some, wR_some, callR_some, freezeL, freeze_int, freeze_bool, freeze_str, freeze_u16, freeze_u8, freeze_ptr, freeze_nils, boolR_true, boolR_false, blockR_nrm, blockR_exit, blockR_ret, outR_ret, outR_nrm, resVs, resV_tmp, oneOr, Option.map_some, Option.map_none, List.map_cons, List.map_nil, if_true, if_false, Bool.not_true, Bool.not_false, Bool.false_eq_true, reduceIte, decide_true, decide_false, i64_lss, i64_leq, i64_gtr, i64_geq, i64_eql, i64_neq, i64_add, i64_sub]
    first | done | rfl
  | false =>
    have r1 : ∃ e1, evC tabGl (evT (k + 3)) (k + 3) M22b0 (E22 (.str (encL r)) s.next) (s.new (.iter (encL r) 0)) = some (.nrm, e1, s.new (.iter (encL r) (encL r).length)) ∧ maskE M22b0l e1 = E22 (.str (encL r)) s.next := by
      refine ⟨_, Eq.trans (b := some (Ex.nrm, ?_, s.new (.iter (encL r) (encL r).length))) ?_ rfl, ?_⟩
      case refine_2 =>
        simp only [M22b0, E22, ev1_nxtV, nxtV_ptr, get_new_eq, nxt1, new_upd', kd, hk, env0, List.length_cons, List.length_nil, Nat.reduceAdd, Nat.reduceSub, List.replicate, List.cons_append, List.nil_append, evC_seq, evC_reg, evC_skip, evC_exit, evC_ret, evC_block, evC_condX, condX_true, condX_false, evOps_nil, evOps_one, contR_some, evOps_gd, gdR_tt, gdR_ft, gdR_tf, gdR_ff, gdR_un, bq_true, bq_false, ev1_mv, ev1_pick, ev1_bin, ev1_eqv, ev1_un, un_not, ev1_mki, ev1_slc, ev1_lenV, ev1_ixaV, ev1_appV, ev1_load, ev1_call, ev1_mn, ev1_mx, ev1_conv, ev1_alloc, ev1_storeV, ev1_bslR, bslR_sl, bslR_hs, fill_nil, fill_cons, fill1_u8a, fill1_u8b, fill1_ca, fill1_cb, thenO_some, loadR_rp, opd, Env.put, Env.at, seqR_nrm, seqR_exit, seqR_ret, regR_some, List.set_cons_zero, List.set_cons_succ, List.getD_cons_zero, List.getD_cons_succ, pR_some, wR_some, callR_some, freezeL, freeze_int, freeze_bool, freeze_str, freeze_u16, freeze_u8, freeze_ptr, freeze_nils, boolR_true, boolR_false, blockR_nrm, blockR_exit, blockR_ret, outR_ret, outR_nrm, resVs, resV_tmp, oneOr, Option.map_some, Option.map_none, List.map_cons, List.map_nil, if_true, if_false, Bool.not_true, Bool.not_false, Bool.false_eq_true, reduceIte, decide_true, decide_false, i64_lss, i64_leq, i64_gtr, i64_geq, i64_eql, i64_neq, i64_add, i64_sub, load_ptr, ldV_some, cellAt_cells, List.getElem?_cons_zero, List.getElem?_cons_succ, store_ptr, stO_some, setAt_0, setAt_1, setAt_2, setAt_3, setAt_4, setAt_5, setAt_6, setAt_7, setAt_8, setAt_9, setAt_10, setAt_11, setAt_12, cells_int, cells_bool, cells_str, cells_nils, cells_nilp, cells_ptr, cells_sl, cells_u8, cells_u16, cells_agg, get_upd_is, Option.isSome_some, upd_upd, ev1_nchkV, ev1_faV, nchkV_ptr, faV_ptr, ev1_extV, extV_tup, eqptr_nil, eqptr_ptr, Nat.zero_add, Nat.add_zero]
        rfl
      case refine_3 => rfl
    obtain ⟨e1, q1, q2⟩ := r1
    have r2 : evC tabGl (evT (k + 3)) (k + 3) M22b0 (maskE M22b0l e1) (s.new (.iter (encL r) (encL r).length)) = some (.exit 0, (E22 (.str (encL r)) s.next).set 7 (.tup [.bool false]) |>.set 8 (.bool false), s.new (.iter (encL r) (encL r).length)) := by
      rw [q2]
      simp only [M22b0, E22, ev1_nxtV, nxtV_ptr, get_new_eq, nxt2, env0, List.length_cons, List.length_nil, Nat.reduceAdd, Nat.reduceSub, List.replicate, List.cons_append, List.nil_append, evC_seq, evC_reg, evC_skip, evC_exit, evC_ret, evC_block, evC_condX, condX_true, condX_false, evOps_nil, evOps_one, contR_some, evOps_gd, gdR_tt, gdR_ft, gdR_tf, gdR_ff, gdR_un, bq_true, bq_false, ev1_mv, ev1_pick, ev1_bin, ev1_eqv, ev1_un, un_not, ev1_mki, ev1_slc, ev1_lenV, ev1_ixaV, ev1_appV, ev1_load, ev1_call, ev1_mn, ev1_mx, ev1_conv, ev1_alloc, ev1_storeV, ev1_bslR, bslR_sl, bslR_hs, fill_nil, fill_cons, fill1_u8a, fill1_u8b, fill1_ca, fill1_cb, thenO_some, loadR_rp, opd, Env.put, Env.at, seqR_nrm, seqR_exit, seqR_ret, regR_some, List.set_cons_zero, List.set_cons_succ, List.getD_cons_zero, List.getD_cons_succ, pR_some, wR_some, callR_some, freezeL, freeze_int, freeze_bool, freeze_str, freeze_u16, freeze_u8, freeze_ptr, freeze_nils, boolR_true, boolR_false, blockR_nrm, blockR_exit, blockR_ret, outR_ret, outR_nrm, resVs, resV_tmp, oneOr, Option.map_some, Option.map_none, List.map_cons, List.map_nil, if_true, if_false, Bool.not_true, Bool.not_false, Bool.false_eq_true, reduceIte, decide_true, decide_false, i64_lss, i64_leq, i64_gtr, i64_geq, i64_eql, i64_neq, i64_add, i64_sub, load_ptr, ldV_some, cellAt_cells, List.getElem?_cons_zero, List.getElem?_cons_succ, store_ptr, stO_some, setAt_0, setAt_1, setAt_2, setAt_3, setAt_4, setAt_5, setAt_6, setAt_7, setAt_8, setAt_9, setAt_10, setAt_11, setAt_12, cells_int, cells_bool, cells_str, cells_nils, cells_nilp, cells_ptr, cells_sl, cells_u8, cells_u16, cells_agg, get_upd_is, Option.isSome_some, upd_upd, ev1_nchkV, ev1_faV, nchkV_ptr, faV_ptr, ev1_extV, extV_tup, eqptr_nil, eqptr_ptr, Nat.zero_add, Nat.add_zero]
    refine ⟨s.new (.iter (encL r) (encL r).length), ?_⟩
    rw [show k + 3 = (k + 1) + 2 from rfl, two_rounds _ _ (k + 1) _ e1 _ _ _ _ 0 q1 r2]
    simp only [E22, ev1_lensV, lensV_str, hlen, env0, List.length_cons, List.length_nil, Nat.reduceAdd, Nat.reduceSub, List.replicate, List.cons_append, List.nil_append, evC_seq, evC_reg, evC_skip, evC_exit, evC_ret, evC_block, evC_condX, condX_true, condX_false, evOps_nil, evOps_one, contR_some, evOps_gd, gdR_tt, gdR_ft, gdR_tf, gdR_ff, gdR_un, bq_true, bq_false, ev1_mv, ev1_pick, ev1_bin, ev1_eqv, ev1_un, un_not, ev1_mki, ev1_slc, ev1_lenV, ev1_ixaV, ev1_appV, ev1_load, ev1_call, ev1_mn, ev1_mx, ev1_conv, ev1_alloc, ev1_storeV, ev1_bslR, bslR_sl, bslR_hs, fill_nil, fill_cons, fill1_u8a, fill1_u8b, fill1_ca, fill1_cb, thenO_some, loadR_rp, opd, Env.put, Env.at, seqR_nrm, seqR_exit, seqR_ret, regR_some, List.set_cons_zero, List.set_cons_succ, List.getD_cons_zero, List.getD_cons_succ, pR_some, wR_some, callR_some, freezeL, freeze_int, freeze_bool, freeze_str, freeze_u16, freeze_u8, freeze_ptr, freeze_nils, boolR_true, boolR_false, blockR_nrm, blockR_exit, blockR_ret, outR_ret, outR_nrm, resVs, resV_tmp, oneOr, Option.map_some, Option.map_none, List.map_cons, List.map_nil, if_true, if_false, Bool.not_true, Bool.not_false, Bool.false_eq_true, reduceIte, decide_true, decide_false, i64_lss, i64_leq, i64_gtr, i64_geq, i64_eql, i64_neq, i64_add, i64_sub]
    first | done | rfl
def E28 (o : AV) (p : Nat) : Env := [.undef, .undef, .undef, o, .undef, .undef, .undef, .undef, .ptr p 0] ++ List.replicate 17 .undef
/-- What a rune becomes that is made plain. -/
def plainOf (r : Int) : Int := if kindOf r = 0 ∨ kindOf r = 4 then 63 else (runeOf r : Nat)
theorem plain1_ev (k : Nat) (r : Int) (s : St) : ∃ s', evT (k + 4) 28 [.str (encL r)] s = some (.str (encL (plainOf r)), s') := by
  have kd : ∀ s, evT (k + 3) 30 [.int .i32 (runeOf r : Nat)] s = some (.int .i64 (kindOf r), s) := fun s => by rw [← kind_rune r]; exact kind_ev (k + 1) _ s
  rw [show k + 4 = (k + 3) + 1 from rfl, evT_in rfl tab28]
  simp only [M28, ev1_rngV, rngV_str, evC_loop, env0, List.length_cons, List.length_nil, Nat.reduceAdd, Nat.reduceSub, List.replicate, List.cons_append, List.nil_append, evC_seq, evC_reg, evC_skip, evC_exit, evC_ret, evC_block, evC_condX, condX_true, condX_false, evOps_nil, evOps_one, contR_some, evOps_gd, gdR_tt, gdR_ft, gdR_tf, gdR_ff, gdR_un, bq_true, bq_false, ev1_mv, ev1_pick, ev1_bin, ev1_eqv, ev1_un, un_not, ev1_mki, ev1_slc, ev1_lenV, ev1_ixaV, ev1_appV, ev1_load, ev1_call, ev1_mn, ev1_mx, ev1_conv, ev1_alloc, ev1_storeV, ev1_bslR, bslR_sl, bslR_hs, fill_nil, fill_cons, fill1_u8a, fill1_u8b, fill1_ca, fill1_cb, thenO_some, loadR_rp, opd, Env.put, Env.at, seqR_nrm, seqR_exit, seqR_ret, regR_some, List.set_cons_zero, List.set_cons_succ, List.getD_cons_zero, List.getD_cons_succ, pR_some, wR_some, callR_some, freezeL, freeze_int, freeze_bool, freeze_str, freeze_u16, freeze_u8, freeze_ptr, freeze_nils, boolR_true, boolR_false, blockR_nrm, blockR_exit, blockR_ret, outR_ret, outR_nrm, resVs, resV_tmp, oneOr, Option.map_some, Option.map_none, List.map_cons, List.map_nil, if_true, if_false, Bool.not_true, Bool.not_false, Bool.false_eq_true, reduceIte, decide_true, decide_false, i64_lss, i64_leq, i64_gtr, i64_geq, i64_eql, i64_neq, i64_add, i64_sub]
  have en := (Ext.refl (s.new (.iter (encL r) (encL r).length))).new (.tick 1 0)
  have en2 := en.new (.tick 1 0)
  have hg : (((s.new (.iter (encL r) (encL r).length)).new (.tick 1 0)).new (.tick 1 0)).get s.next = some (.iter (encL r) (encL r).length) := (en2.get s.next (by simp [St.new])).trans (get_new_eq _ _)
  have ap : ∀ (x : Int) (s : St) tk, appV false 1 4 s .nils (.sl [.int .i32 x] 1 tk) = some (.sl [.int .i32 x] 1 (some (s.next, 0, 1)), s.new (.tick 1 0)) := fun x s tk => rfl
  have rs : ∀ (x : Int) tk, convP .r2s (.sl [.int .i32 x] 1 tk) = some (.str (encL x)) := fun x tk => by simp [convP, runes, encL]
  have r1 : ∃ e1, evC tabGl (evT (k + 3)) (k + 3) M28b0 (E28 .nils s.next) (s.new (.iter (encL r) 0)) = some (.nrm, e1, ((s.new (.iter (encL r) (encL r).length)).new (.tick 1 0)).new (.tick 1 0)) ∧
      maskE M28b0l e1 = E28 (.sl [.int .i32 (plainOf r)] 1 (some (((s.new (.iter (encL r) (encL r).length)).new (.tick 1 0)).next, 0, 1))) s.next := by
    cases h0 : (kindOf r == 0) <;> cases h4 : (kindOf r == 4)
    all_goals
      first
        | have hp : plainOf r = 63 := (by unfold plainOf; rw [if_pos (by simp at h0 h4; omega)])
        | have hp : plainOf r = (runeOf r : Nat) := (by unfold plainOf; rw [if_neg (by simp at h0 h4; omega)])
      refine ⟨_, Eq.trans (b := some (Ex.nrm, ?_, ((s.new (.iter (encL r) (encL r).length)).new (.tick 1 0)).new (.tick 1 0))) ?_ rfl, ?_⟩
      case refine_2 =>
        simp only [M28b0, E28, ev1_nxtV, nxtV_ptr, get_new_eq, nxt1, new_upd', kd, h0, h4, ap, hp, env0, List.length_cons, List.length_nil, Nat.reduceAdd, Nat.reduceSub, List.replicate, List.cons_append, List.nil_append, evC_seq, evC_reg, evC_skip, evC_exit, evC_ret, evC_block, evC_condX, condX_true, condX_false, evOps_nil, evOps_one, contR_some, evOps_gd, gdR_tt, gdR_ft, gdR_tf, gdR_ff, gdR_un, bq_true, bq_false, ev1_mv, ev1_pick, ev1_bin, ev1_eqv, ev1_un, un_not, ev1_mki, ev1_slc, ev1_lenV, ev1_ixaV, ev1_appV, ev1_load, ev1_call, ev1_mn, ev1_mx, ev1_conv, ev1_alloc, ev1_storeV, ev1_bslR, bslR_sl, bslR_hs, fill_nil, fill_cons, fill1_u8a, fill1_u8b, fill1_ca, fill1_cb, thenO_some, loadR_rp, opd, Env.put, Env.at, seqR_nrm, seqR_exit, seqR_ret, regR_some, List.set_cons_zero, List.set_cons_succ, List.getD_cons_zero, List.getD_cons_succ, pR_some, wR_some, callR_some, freezeL, freeze_int, freeze_bool, freeze_str, freeze_u16, freeze_u8, freeze_ptr, freeze_nils, boolR_true, boolR_false, blockR_nrm, blockR_exit, blockR_ret, outR_ret, outR_nrm, resVs, resV_tmp, oneOr, Option.map_some, Option.map_none, List.map_cons, List.map_nil, if_true, if_false, Bool.not_true, Bool.not_false, Bool.false_eq_true, reduceIte, decide_true, decide_false, i64_lss, i64_leq, i64_gtr, i64_geq, i64_eql, i64_neq, i64_add, i64_sub, load_ptr, ldV_some, cellAt_cells, List.getElem?_cons_zero, List.getElem?_cons_succ, store_ptr, stO_some, setAt_0, setAt_1, setAt_2, setAt_3, setAt_4, setAt_5, setAt_6, setAt_7, setAt_8, setAt_9, setAt_10, setAt_11, setAt_12, cells_int, cells_bool, cells_str, cells_nils, cells_nilp, cells_ptr, cells_sl, cells_u8, cells_u16, cells_agg, get_upd_is, Option.isSome_some, upd_upd, ev1_nchkV, ev1_faV, nchkV_ptr, faV_ptr, ev1_extV, extV_tup, eqptr_nil, eqptr_ptr, Nat.zero_add, Nat.add_zero]
        rfl
      case refine_3 => rw [hp]; rfl
  obtain ⟨e1, q1, q2⟩ := r1
  have r2 : evC tabGl (evT (k + 3)) (k + 3) M28b0 (maskE M28b0l e1) (((s.new (.iter (encL r) (encL r).length)).new (.tick 1 0)).new (.tick 1 0)) =
      some (.exit 0, (E28 (.sl [.int .i32 (plainOf r)] 1 (some (((s.new (.iter (encL r) (encL r).length)).new (.tick 1 0)).next, 0, 1))) s.next).set 9 (.tup [.bool false]) |>.set 10 (.bool false), ((s.new (.iter (encL r) (encL r).length)).new (.tick 1 0)).new (.tick 1 0)) := by
    rw [q2]
    simp only [M28b0, E28, ev1_nxtV, nxtV_ptr, hg, nxt2, env0, List.length_cons, List.length_nil, Nat.reduceAdd, Nat.reduceSub, List.replicate, List.cons_append, List.nil_append, evC_seq, evC_reg, evC_skip, evC_exit, evC_ret, evC_block, evC_condX, condX_true, condX_false, evOps_nil, evOps_one, contR_some, evOps_gd, gdR_tt, gdR_ft, gdR_tf, gdR_ff, gdR_un, bq_true, bq_false, ev1_mv, ev1_pick, ev1_bin, ev1_eqv, ev1_un, un_not, ev1_mki, ev1_slc, ev1_lenV, ev1_ixaV, ev1_appV, ev1_load, ev1_call, ev1_mn, ev1_mx, ev1_conv, ev1_alloc, ev1_storeV, ev1_bslR, bslR_sl, bslR_hs, fill_nil, fill_cons, fill1_u8a, fill1_u8b, fill1_ca, fill1_cb, thenO_some, loadR_rp, opd, Env.put, Env.at, seqR_nrm, seqR_exit, seqR_ret, regR_some, List.set_cons_zero, List.set_cons_succ, List.getD_cons_zero, List.getD_cons_succ, pR_some, wR_some, callR_some, freezeL, freeze_int, freeze_bool, freeze_str, freeze_u16, freeze_u8, freeze_ptr, freeze_nils, boolR_true, boolR_false, blockR_nrm, blockR_exit, blockR_ret, outR_ret, outR_nrm, resVs, resV_tmp, oneOr, Option.map_some, Option.map_none, List.map_cons, List.map_nil, if_true, if_false, Bool.not_true, Bool.not_false, Bool.false_eq_true, reduceIte, decide_true, decide_false, i64_lss, i64_leq, i64_gtr, i64_geq, i64_eql, i64_neq, i64_add, i64_sub, load_ptr, ldV_some, cellAt_cells, List.getElem?_cons_zero, List.getElem?_cons_succ, store_ptr, stO_some, setAt_0, setAt_1, setAt_2, setAt_3, setAt_4, setAt_5, setAt_6, setAt_7, setAt_8, setAt_9, setAt_10, setAt_11, setAt_12, cells_int, cells_bool, cells_str, cells_nils, cells_nilp, cells_ptr, cells_sl, cells_u8, cells_u16, cells_agg, get_upd_is, Option.isSome_some, upd_upd, ev1_nchkV, ev1_faV, nchkV_ptr, faV_ptr, ev1_extV, extV_tup, eqptr_nil, eqptr_ptr, Nat.zero_add, Nat.add_zero]
  refine ⟨((s.new (.iter (encL r) (encL r).length)).new (.tick 1 0)).new (.tick 1 0), ?_⟩
  rw [show k + 3 = (k + 1) + 2 from rfl, two_rounds _ _ (k + 1) _ e1 _ _ _ _ 0 q1 r2]
  simp only [E28, rs, env0, List.length_cons, List.length_nil, Nat.reduceAdd, Nat.reduceSub, List.replicate, List.cons_append, List.nil_append, evC_seq, evC_reg, evC_skip, evC_exit, evC_ret, evC_block, evC_condX, condX_true, condX_false, evOps_nil, evOps_one, contR_some, evOps_gd, gdR_tt, gdR_ft, gdR_tf, gdR_ff, gdR_un, bq_true, bq_false, ev1_mv, ev1_pick, ev1_bin, ev1_eqv, ev1_un, un_not, ev1_mki, ev1_slc, ev1_lenV, ev1_ixaV, ev1_appV, ev1_load, ev1_call, ev1_mn, ev1_mx, ev1_conv, ev1_alloc, ev1_storeV, ev1_bslR, bslR_sl, bslR_hs, fill_nil, fill_cons, fill1_u8a, fill1_u8b, fill1_ca, fill1_cb, thenO_some, loadR_rp, opd, Env.put, Env.at, seqR_nrm, seqR_exit, seqR_ret, regR_some, List.set_cons_zero, List.set_cons_succ, List.getD_cons_zero, List.getD_cons_succ, pR_some, wR_some, callR_some, freezeL, freeze_int, freeze_bool, freeze_str, freeze_u16, freeze_u8, freeze_ptr, freeze_nils, boolR_true, boolR_false, blockR_nrm, blockR_exit, blockR_ret, outR_ret, outR_nrm, resVs, resV_tmp, oneOr, Option.map_some, Option.map_none, List.map_cons, List.map_nil, if_true, if_false, Bool.not_true, Bool.not_false, Bool.false_eq_true, reduceIte, decide_true, decide_false, i64_lss, i64_leq, i64_gtr, i64_geq, i64_eql, i64_neq, i64_add, i64_sub]
  first | done | rfl
end Go.Proofs.YthcblggiojpmcaaDoor
