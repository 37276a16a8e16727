/- nick.Kind and the reference's, as the evaluator answers them. No conditions. -/
import Derived.Test.YthcblggiojpmcaaDoorM4n
import Derived.Test.YthcblggiojpmcaaDoorM4v
import Derived.Test.YthcblggiojpmcaaDoorPtr
set_option linter.unusedSimpArgs false
namespace Go.Ab
open Go
theorem i32_geq (a b : Int) : binV .geq (.int .i32 a) (.int .i32 b) = some (.bool (decide (a ≥ b))) := rfl
theorem i32_leq (a b : Int) : binV .leq (.int .i32 a) (.int .i32 b) = some (.bool (decide (a ≤ b))) := rfl
theorem i32_lss (a b : Int) : binV .lss (.int .i32 a) (.int .i32 b) = some (.bool (decide (a < b))) := rfl
theorem i32_gtr (a b : Int) : binV .gtr (.int .i32 a) (.int .i32 b) = some (.bool (decide (a > b))) := rfl
theorem i32_neq (a b : Int) : binV .neq (.int .i32 a) (.int .i32 b) = some (.bool (a != b)) := rfl
end Go.Ab
namespace Go.Proofs.YthcblggiojpmcaaDoor
open Go Go.Ab
def kindOf (r : Int) : Int :=
  if (97 ≤ r ∧ r ≤ 122) ∨ (65 ≤ r ∧ r ≤ 90) then 1 else if 48 ≤ r ∧ r ≤ 57 then 2 else if 32 ≤ r ∧ r ≤ 126 then 3 else if 160 ≤ r ∧ r ≠ 65533 ∧ Utf8.valid r = true then 4 else 0
theorem regions (r : Int) : r < 0 ∨ (0 ≤ r ∧ r ≤ 31) ∨ (32 ≤ r ∧ r ≤ 47) ∨ (48 ≤ r ∧ r ≤ 57) ∨ (58 ≤ r ∧ r ≤ 64) ∨ (65 ≤ r ∧ r ≤ 90) ∨ (91 ≤ r ∧ r ≤ 96) ∨ (97 ≤ r ∧ r ≤ 122) ∨ (123 ≤ r ∧ r ≤ 126) ∨ (127 ≤ r ∧ r ≤ 159) ∨
    (160 ≤ r ∧ r ≤ 55295) ∨ (55296 ≤ r ∧ r ≤ 57343) ∨ (57344 ≤ r ∧ r ≤ 65532) ∨ r = 65533 ∨ (65534 ≤ r ∧ r ≤ 1114111) ∨ 1114112 ≤ r := by omega
theorem valid_ev (k : Nat) (r : Int) (s : St) : evT (k + 1) 66 [.int .i32 r] s = some (.bool (Utf8.valid r), s) := by
  rw [evT_in rfl tab66]
  have hvv : Utf8.valid r = decide ((0 ≤ r ∧ r < 55296) ∨ (57344 ≤ r ∧ r ≤ 1114111)) := by
    unfold Utf8.valid
    rw [Bool.eq_iff_iff]
    simp
  rcases regions r with h | h | h | h | h | h | h | h | h | h | h | h | h | h | h | h
  all_goals
    first | have ge0 : (0 ≤ r) = True := eq_true (by omega) | have ge0 : (0 ≤ r) = False := eq_false (by omega)
    first | have ltS : (r < 55296) = True := eq_true (by omega) | have ltS : (r < 55296) = False := eq_false (by omega)
    first | have gtS : (57343 < r) = True := eq_true (by omega) | have gtS : (57343 < r) = False := eq_false (by omega)
    first | have leM : (r ≤ 1114111) = True := eq_true (by omega) | have leM : (r ≤ 1114111) = False := eq_false (by omega)
    first | have lt0 : (r < 0) = True := eq_true (by omega) | have lt0 : (r < 0) = False := eq_false (by omega)
    first | have ge0' : (r ≥ 0) = True := eq_true (by omega) | have ge0' : (r ≥ 0) = False := eq_false (by omega)
    first | have gtS' : (r > 57343) = True := eq_true (by omega) | have gtS' : (r > 57343) = False := eq_false (by omega)
    first | have vl : Utf8.valid r = true := (by rw [hvv, decide_eq_true_eq]; omega) | have vl : Utf8.valid r = false := (by rw [hvv, decide_eq_false_iff_not]; omega)
    simp only [M66, i32_geq, i32_leq, i32_lss, i32_gtr, ge0, ltS, gtS, leM, lt0, ge0', gtS', vl, env0, List.length_cons, List.length_nil, Nat.reduceAdd, Nat.reduceSub, List.replicate, List.cons_append, List.nil_append, evC_seq, evC_reg, evC_skip, evC_exit, evC_ret, evC_block, evC_condX, condX_true, condX_false, evOps_nil, evOps_one, contR_some, evOps_gd, gdR_tt, gdR_ft, gdR_tf, gdR_ff, gdR_un, bq_true, bq_false, ev1_mv, ev1_pick, ev1_bin, ev1_eqv, ev1_un, un_not, ev1_mki, ev1_slc, ev1_lenV, ev1_ixaV, ev1_appV, ev1_load, ev1_call, ev1_mn, ev1_mx, ev1_conv, ev1_alloc, ev1_storeV, ev1_bslR, bslR_sl, bslR_hs, fill_nil, fill_cons, fill1_u8a, fill1_u8b, fill1_ca, fill1_cb, thenO_some, loadR_rp, opd, Env.put, Env.at, seqR_nrm, seqR_exit, seqR_ret, regR_some, List.set_cons_zero, List.set_cons_succ, List.getD_cons_zero, List.getD_cons_succ, pR_some, wR_some, callR_some, freezeL, freeze_int, freeze_bool, freeze_str, freeze_u16, freeze_u8, freeze_ptr, freeze_nils, boolR_true, boolR_false, blockR_nrm, blockR_exit, blockR_ret, outR_ret, outR_nrm, resVs, resV_tmp, oneOr, Option.map_some, Option.map_none, List.map_cons, List.map_nil, if_true, if_false, Bool.not_true, Bool.not_false, Bool.false_eq_true, reduceIte, decide_true, decide_false, i64_lss, i64_leq, i64_gtr, i64_geq, i64_eql, i64_neq, i64_add, i64_sub]
theorem kind_ev (k : Nat) (r : Int) (s : St) : evT (k + 2) 30 [.int .i32 r] s = some (.int .i64 (kindOf r), s) := by
  have hv : ∀ s, evT (k + 1) 66 [.int .i32 r] s = some (.bool (Utf8.valid r), s) := fun s => valid_ev k r s
  rw [show k + 2 = (k + 1) + 1 from rfl, evT_in rfl tab30]
  have hvv : Utf8.valid r = decide ((0 ≤ r ∧ r < 55296) ∨ (57344 ≤ r ∧ r ≤ 1114111)) := by
    unfold Utf8.valid
    rw [Bool.eq_iff_iff]
    simp
  rcases regions r with h | h | h | h | h | h | h | h | h | h | h | h | h | h | h | h
  all_goals
    first | have ge97 : (r ≥ 97) = True := eq_true (by omega) | have ge97 : (r ≥ 97) = False := eq_false (by omega)
    first | have le122 : (r ≤ 122) = True := eq_true (by omega) | have le122 : (r ≤ 122) = False := eq_false (by omega)
    first | have ge65 : (r ≥ 65) = True := eq_true (by omega) | have ge65 : (r ≥ 65) = False := eq_false (by omega)
    first | have le90 : (r ≤ 90) = True := eq_true (by omega) | have le90 : (r ≤ 90) = False := eq_false (by omega)
    first | have ge48 : (r ≥ 48) = True := eq_true (by omega) | have ge48 : (r ≥ 48) = False := eq_false (by omega)
    first | have le57 : (r ≤ 57) = True := eq_true (by omega) | have le57 : (r ≤ 57) = False := eq_false (by omega)
    first | have ge32 : (r ≥ 32) = True := eq_true (by omega) | have ge32 : (r ≥ 32) = False := eq_false (by omega)
    first | have le126 : (r ≤ 126) = True := eq_true (by omega) | have le126 : (r ≤ 126) = False := eq_false (by omega)
    first | have ge160 : (r ≥ 160) = True := eq_true (by omega) | have ge160 : (r ≥ 160) = False := eq_false (by omega)
    first | have ne : (r != 65533) = true := (by simp; omega) | have ne : (r != 65533) = false := (by simp; omega)
    first | have vl : Utf8.valid r = true := (by rw [hvv, decide_eq_true_eq]; omega) | have vl : Utf8.valid r = false := (by rw [hvv, decide_eq_false_iff_not]; omega)
    first | have kl97 : (97 ≤ r) = True := eq_true (by omega) | have kl97 : (97 ≤ r) = False := eq_false (by omega)
    first | have kl65 : (65 ≤ r) = True := eq_true (by omega) | have kl65 : (65 ≤ r) = False := eq_false (by omega)
    first | have kl48 : (48 ≤ r) = True := eq_true (by omega) | have kl48 : (48 ≤ r) = False := eq_false (by omega)
    first | have kl32 : (32 ≤ r) = True := eq_true (by omega) | have kl32 : (32 ≤ r) = False := eq_false (by omega)
    first | have kl160 : (160 ≤ r) = True := eq_true (by omega) | have kl160 : (160 ≤ r) = False := eq_false (by omega)
    first | have kne : (r ≠ 65533) = True := eq_true (by omega) | have kne : (r ≠ 65533) = False := eq_false (by omega)
    simp only [M30, i32_geq, i32_leq, i32_neq, ge97, le122, ge65, le90, ge48, le57, ge32, le126, ge160, ne, vl, kindOf, kl97, kl65, kl48, kl32, kl160, kne, true_and, and_true, false_and, and_false, or_true, true_or, or_false, false_or, and_self, or_self, hv, env0, List.length_cons, List.length_nil, Nat.reduceAdd, Nat.reduceSub, List.replicate, List.cons_append, List.nil_append, evC_seq, evC_reg, evC_skip, evC_exit, evC_ret, evC_block, evC_condX, condX_true, condX_false, evOps_nil, evOps_one, contR_some, evOps_gd, gdR_tt, gdR_ft, gdR_tf, gdR_ff, gdR_un, bq_true, bq_false, ev1_mv, ev1_pick, ev1_bin, ev1_eqv, ev1_un, un_not, ev1_mki, ev1_slc, ev1_lenV, ev1_ixaV, ev1_appV, ev1_load, ev1_call, ev1_mn, ev1_mx, ev1_conv, ev1_alloc, ev1_storeV, ev1_bslR, bslR_sl, bslR_hs, fill_nil, fill_cons, fill1_u8a, fill1_u8b, fill1_ca, fill1_cb, thenO_some, loadR_rp, opd, Env.put, Env.at, seqR_nrm, seqR_exit, seqR_ret, regR_some, List.set_cons_zero, List.set_cons_succ, List.getD_cons_zero, List.getD_cons_succ, pR_some, wR_some, callR_some, freezeL, freeze_int, freeze_bool, freeze_str, freeze_u16, freeze_u8, freeze_ptr, freeze_nils, boolR_true, boolR_false, blockR_nrm, blockR_exit, blockR_ret, outR_ret, outR_nrm, resVs, resV_tmp, oneOr, Option.map_some, Option.map_none, List.map_cons, List.map_nil, if_true, if_false, Bool.not_true, Bool.not_false, Bool.false_eq_true, reduceIte, decide_true, decide_false, i64_lss, i64_leq, i64_gtr, i64_geq, i64_eql, i64_neq, i64_add, i64_sub]
end Go.Proofs.YthcblggiojpmcaaDoor
