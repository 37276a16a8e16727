/- Offers as bytes, and back, as what they answer. No conditions. -/
import Derived.Test.YtbeimfhodgmjhaaDoorQ11
set_option linter.unusedSimpArgs false
set_option linter.unusedVariables false
set_option maxRecDepth 100000
set_option maxHeartbeats 4000000
namespace Go.Proofs.YtbeimfhodgmjhaaDoor
open Go Go.Ab
theorem tmod_fix (x d : Int) (hd : 0 < d) : (x.tmod d + d).tmod d = x % d := by
  have h1 := Int.mul_tdiv_add_tmod x d
  have h2 : -d < x.tmod d := by
    rcases Int.le_total 0 x with h | h
    · have := Int.tmod_nonneg d h; omega
    · have := Int.tmod_lt_of_pos (-x) hd
      rw [Int.neg_tmod] at this
      omega
  rw [Int.tmod_eq_emod_of_nonneg (by omega)]
  have : x.tmod d + d = x + d * (1 - x.tdiv d) := by rw [Int.mul_sub, Int.mul_one]; omega
  rw [this, Int.add_mul_emod_self_left]
theorem tmod_le (x d : Int) (hd : 0 < d) : -d < x.tmod d ∧ x.tmod d < d := by
  refine ⟨?_, Int.tmod_lt_of_pos x hd⟩
  rcases Int.le_total 0 x with h | h
  · have := Int.tmod_nonneg d h; omega
  · have := Int.tmod_lt_of_pos (-x) hd
    rw [Int.neg_tmod] at this
    omega
theorem text_val (l : List UInt8) (n : Nat) : valR (evB 1000 22 [.str l, .int .i64 (n : Int)] St.nil) = some (.str (l.take n)) := by
  rw [show (1000 : Nat) = 999 + 1 from rfl, evB_in rfl tab22]
  have lst : lensV' (.str l) = some (.int .i64 (l.length : Nat)) := rfl
  have hs := slcS_str l ((min l.length n : Nat) : Int) (by omega) (by omega)
  have hm : (if (n : Int) < ((l.length : Nat) : Int) then (n : Int) else ((l.length : Nat) : Int)) = ((min l.length n : Nat) : Int) := by split <;> omega
  have ht : l.take (min l.length n) = l.take n := by
    rcases Nat.le_total l.length n with h | h
    · rw [Nat.min_eq_left h, List.take_length, List.take_of_length_le h]
    · rw [Nat.min_eq_right h]
  rw [Int.toNat_natCast, ht] at hs
  simp only [M22, lst, mn2_i64, evP_mn2, hm, hs, ev1_lensV', ev1_slsV, qES0, qES1, qES2, env0, List.length_cons, List.length_nil, Nat.reduceAdd, Nat.reduceSub, List.replicate, List.cons_append, List.nil_append, opd, Env.put, Env.at, List.set_cons_zero, List.set_cons_succ, List.getD_cons_zero, List.getD_cons_succ, freezeL, resVs, oneOr, Option.map_some, Option.map_none, List.map_cons, List.map_nil, if_true, if_false, Bool.not_true, Bool.not_false, Bool.false_eq_true, reduceIte, decide_true, decide_false, Int.reduceLT, Int.reduceLE, Int.reduceGT, Int.reduceGE, Int.reduceEq, Int.reduceBEq, Int.reduceBNe, load_ptr, ldV_some, cellAt_cells, List.getElem?_cons_zero, List.getElem?_cons_succ, store_ptr, stO_some, setAt_0, setAt_1, setAt_2, setAt_3, setAt_4, setAt_5, setAt_6, setAt_7, setAt_8, setAt_9, setAt_10, setAt_11, setAt_12, cells_int, cells_bool, cells_str, cells_nils, cells_nilp, cells_ptr, cells_sl, cells_u8, cells_u16, cells_agg, get_upd_is, Option.isSome_some, upd_upd, ev1_nchkV, ev1_faV, nchkV_ptr, faV_ptr, ev1_extV, extV_tup, eqptr_nil, eqptr_ptr, Nat.zero_add, Nat.add_zero, qPL0, qPL1, qPL2, qPL3, qPL4, qPL5, beq_self_eq_true]
def hText : List AV → St → Option AV
  | [.str l, .int .i64 n], _ => if 0 ≤ n then some (.str (l.take n.toNat)) else none
  | _, _ => none
theorem puText : PureOk (evB 1000) 22 hText := pureOk_of (by
  intro args s v hv
  unfold hText at hv
  split at hv
  · rename_i l n
    split at hv
    · rename_i hn
      cases hv
      have := text_val l n.toNat
      rw [Int.toNat_of_nonneg hn] at this
      exact ⟨rfl, rfl, this⟩
    · cases hv
  · cases hv)
def hQPut : List AV → St → Option AV
  | [v], _ => (toOf v).map fun o => .tup [.str (if o.may then offB o else []), .bool (decide o.may)]
  | _, _ => none
def hQGet : List AV → St → Option AV
  | [.str s], _ => some (getOV (getO s))
  | _, _ => none
theorem pureQPut {call : Calls'} {F : Nat} (h : ∀ o : Of5, valR (call F [.agg o.cells] St.nil) = some (.tup [.str (if o.may then offB o else []), .bool (decide o.may)])) : PureOk call F hQPut := pureOk_of (by
  intro args s v hv
  unfold hQPut at hv
  split at hv
  · obtain ⟨o, ho, rfl⟩ := Option.map_eq_some_iff.1 hv
    rw [toOf_of ho]
    exact ⟨rfl, by simp [flatL, o.flat], h o⟩
  · cases hv)
theorem pureQGet {call : Calls'} {F : Nat} (h : ∀ s, valR (call F [.str s] St.nil) = some (getOV (getO s))) : PureOk call F hQGet := pureOk_of (by
  intro args s v hv
  unfold hQGet at hv
  split at hv
  · cases hv
    refine ⟨?_, rfl, h _⟩
    cases getO _ <;> rfl
  · cases hv)
theorem puK23 : PureOk (evB 1000) 23 (hQPut) := (pureQPut qput_val)
theorem puK24 : PureOk (evB 1000) 24 (hQPut) := (pureQPut rqput_val)
theorem puK38 : PureOk (evB 1000) 38 (hQGet) := (pureQGet qget_val)
theorem puK39 : PureOk (evB 1000) 39 (hQGet) := (pureQGet rqget_val)
def lstK (f : Nat) : Option (List AV → St → Option AV) := if f = 22 then some (hText) else if f = 23 then some (hQPut) else if f = 24 then some (hQPut) else if f = 38 then some (hQGet) else if f = 39 then some (hQGet) else none
noncomputable def extK := extWith extB lstK
theorem extK_ok : ∀ w0, ExtOk Tryd.prog tabGl w0 extK := extOk_add (tableOf_ok _) mixed tab_flat (extB_ok) lstK (by
  intro f h hf
  unfold lstK at hf
  rcases some_of hf with ⟨rfl, rfl⟩ | hf
  · exact ⟨by rw [tab22]; rfl, 1000, puText⟩
  rcases some_of hf with ⟨rfl, rfl⟩ | hf
  · exact ⟨by rw [tab23]; rfl, 1000, puK23⟩
  rcases some_of hf with ⟨rfl, rfl⟩ | hf
  · exact ⟨by rw [tab24]; rfl, 1000, puK24⟩
  rcases some_of hf with ⟨rfl, rfl⟩ | hf
  · exact ⟨by rw [tab38]; rfl, 1000, puK38⟩
  rcases some_of hf with ⟨rfl, rfl⟩ | hf
  · exact ⟨by rw [tab39]; rfl, 1000, puK39⟩
  cases hf)
noncomputable def evK : Nat → Calls' := evF tabGl (tableOf Tryd.prog) extK
theorem evK_ok (w0 : World) (k : Nat) : CallOk Tryd.prog tabGl w0 (evK k) := evF_sound (tableOf_ok _) (extK_ok w0) mixed k
theorem evK_in {k f : Nat} {m : MFun} (hx : extK f = none) (hF : tableOf Tryd.prog f = some m) (args : List AV) (s : St) :
    evK (k + 1) f args s = outR m.res (evC tabGl (evK k) k m.body (env0 m.ntmps args) s) := evF_in hx hF args s
theorem k26 (k : Nat) (n : Int) (s : St) : evK (k + 1) 26 [.int .i64 n] s = some (.int .i64 (highZ n), s) := evF_ext (H := h1 highZ) rfl rfl
theorem k27 (k : Nat) (n : Int) (s : St) : evK (k + 1) 27 [.int .i64 n] s = some (.int .i64 (highZ n), s) := evF_ext (H := h1 highZ) rfl rfl
theorem k28 (k : Nat) (n : Int) (s : St) : evK (k + 1) 28 [.int .i64 n] s = some (.int .i64 (lowZ n), s) := evF_ext (H := h1 lowZ) rfl rfl
theorem k29 (k : Nat) (n : Int) (s : St) : evK (k + 1) 29 [.int .i64 n] s = some (.int .i64 (lowZ n), s) := evF_ext (H := h1 lowZ) rfl rfl
theorem k30 (k : Nat) (n : Int) (s : St) : evK (k + 1) 30 [.int .i64 n] s = some (.int .i64 (baudZ n), s) := evF_ext (H := h1 baudZ) rfl rfl
theorem k31 (k : Nat) (n : Int) (s : St) : evK (k + 1) 31 [.int .i64 n] s = some (.int .i64 (baudZ n), s) := evF_ext (H := h1 baudZ) rfl rfl
theorem k32 (k : Nat) (n : Int) (s : St) : evK (k + 1) 32 [.int .i64 n] s = some (.int .i64 (silentZ n), s) := evF_ext (H := h1 silentZ) rfl rfl
theorem k33 (k : Nat) (n : Int) (s : St) : evK (k + 1) 33 [.int .i64 n] s = some (.int .i64 (silentZ n), s) := evF_ext (H := h1 silentZ) rfl rfl
theorem k34 (k : Nat) (n : Int) (s : St) : evK (k + 1) 34 [.int .i64 n] s = some (.int .i64 (sizeZ n), s) := evF_ext (H := h1 sizeZ) rfl rfl
theorem k35 (k : Nat) (n : Int) (s : St) : evK (k + 1) 35 [.int .i64 n] s = some (.int .i64 (sizeZ n), s) := evF_ext (H := h1 sizeZ) rfl rfl
theorem k36 (k : Nat) (a b : Int) (h : has1 a b) (s : St) : evK (k + 1) 36 [.int .i64 a, .int .i64 b] s = some (.int .i64 (ticksZ a b), s) := evF_ext (H := h2 has1 ticksZ) rfl (if_pos h)
theorem k37 (k : Nat) (a b : Int) (h : has1 a b) (s : St) : evK (k + 1) 37 [.int .i64 a, .int .i64 b] s = some (.int .i64 (ticksZ a b), s) := evF_ext (H := h2 has1 ticksZ) rfl (if_pos h)
theorem k44 (k : Nat) (a b : Int) (h : small1 a b) (s : St) : evK (k + 1) 44 [.int .i64 a, .int .i64 b] s = some (.int .i64 (frameZ a b), s) := evF_ext (H := h2 small1 frameZ) rfl (if_pos h)
theorem k45 (k : Nat) (a b : Int) (h : small1 a b) (s : St) : evK (k + 1) 45 [.int .i64 a, .int .i64 b] s = some (.int .i64 (frameZ a b), s) := evF_ext (H := h2 small1 frameZ) rfl (if_pos h)
theorem k21 (k : Nat) (s : St) : evK (k + 1) 21 [] s = some (.bool true, s) := evF_ext (H := hTrue) rfl rfl
theorem k22 (k : Nat) (l : List UInt8) (n : Nat) (s : St) : evK (k + 1) 22 [.str l, .int .i64 (n : Int)] s = some (.str (l.take n), s) := evF_ext (H := hText) rfl (by
  show (if (0 : Int) ≤ (n : Int) then some (AV.str (l.take ((n : Int)).toNat)) else none) = _
  rw [if_pos (by omega), Int.toNat_natCast])
theorem k25 (k : Nat) (o : Of5) (s : St) : evK (k + 1) 25 [.agg o.cells] s = some (.bool (decide o.may), s) := evF_ext (H := hMayO) rfl rfl
theorem k58 (k : Nat) (o : Of5) (s : St) : evK (k + 1) 58 [.agg o.cells] s = some (.bool (decide o.may), s) := evF_ext (H := hMayO) rfl rfl
theorem k23 (k : Nat) (o : Of5) (s : St) : evK (k + 1) 23 [.agg o.cells] s = some (.tup [.str (if o.may then offB o else []), .bool (decide o.may)], s) := evF_ext (H := hQPut) rfl rfl
theorem k24 (k : Nat) (o : Of5) (s : St) : evK (k + 1) 24 [.agg o.cells] s = some (.tup [.str (if o.may then offB o else []), .bool (decide o.may)], s) := evF_ext (H := hQPut) rfl rfl
theorem k38 (k : Nat) (t : List UInt8) (s : St) : evK (k + 1) 38 [.str t] s = some (getOV (getO t), s) := evF_ext (H := hQGet) rfl rfl
theorem k39 (k : Nat) (t : List UInt8) (s : St) : evK (k + 1) 39 [.str t] s = some (getOV (getO t), s) := evF_ext (H := hQGet) rfl rfl
theorem k41 (k : Nat) {v : AV} {l : List Tp} (h : IsTp v l) (hl : l.length ≤ 100) (s : St) : evK (k + 1) 41 [v] s = some (.tup [.str (if putOk l then encL l else []), .bool (decide (putOk l))], s) := evF_ext (H := hTPut) rfl (by
  simp only [List.map_cons, List.map_nil, hTPut, toTp_is h]; rw [if_pos hl])
theorem k60 (k : Nat) {v : AV} {l : List Tp} (h : IsTp v l) (hl : l.length ≤ 100) (s : St) : evK (k + 1) 60 [v] s = some (.tup [.str (if putOk l then encL l else []), .bool (decide (putOk l))], s) := evF_ext (H := hTPut) rfl (by
  simp only [List.map_cons, List.map_nil, hTPut, toTp_is h]; rw [if_pos hl])
theorem k67 (k : Nat) (t : List UInt8) (s : St) : evK (k + 1) 67 [.str t] s = some (getV (getL t), s) := evF_ext (H := hTGet) rfl rfl
theorem k40 (k : Nat) (t : List UInt8) (s : St) : evK (k + 1) 40 [.str t] s = some (getV (getL t), s) := evF_ext (H := hTGet) rfl rfl
/-! Bytes of an offer, read. -/
theorem u8n_val (n : Int) (h0 : 0 ≤ n) (h1 : n ≤ 255) : ((u8n n).toNat : Int) = n := by
  unfold u8n; simp; omega
theorem getL_offB (o : Of5) : getL (offB o) = some (tupO o) := rfl
theorem ofL_tupO (o : Of5) (h : o.may) : ofL (tupO o) = o := by
  have h' : mayP o.b o.s o.w o.z o.t := h
  unfold mayP at h'
  show (⟨((u8n o.b).toNat : Int), ((u8n o.s).toNat : Int), ((u8n o.w).toNat : Int), ((u8n o.z).toNat : Int), ((u8n o.t).toNat : Int)⟩ : Of5) = o
  rw [u8n_val o.b (by omega) (by omega), u8n_val o.s (by omega) (by omega), u8n_val o.w (by omega) (by omega), u8n_val o.z (by omega) (by omega), u8n_val o.t (by omega) (by omega)]
theorem getO_offB (o : Of5) (h : o.may) : getO (offB o) = some o := by
  unfold getO
  rw [getL_offB]
  show (if (ofL (tupO o)).may then some (ofL (tupO o)) else none) = _
  rw [ofL_tupO o h, if_pos h]
theorem getO_few {s : List UInt8} {l : List Tp} (h : getL s = some l) (j : Nat) (hj : j < 5) (h0 : setOf l ((j : Int) + 1) = 0) : getO s = none := by
  unfold getO
  rw [h]
  exact if_neg (not_may _ j hj ((ofL_sets l j hj).trans h0))
theorem getO_bad {s : List UInt8} (h : getL s = none) : getO s = none := by unfold getO; rw [h]
theorem getO_cut (o : Of5) (k : Nat) (hk : k < 15) : getO ((offB o).take k) = none := by
  match k, hk with
  | 0, _ => exact getO_few (l := []) rfl 0 (by omega) rfl
  | 1, _ => exact getO_bad rfl
  | 2, _ => exact getO_bad rfl
  | 3, _ => exact getO_few (l := (tupO o).take 1) rfl 1 (by omega) rfl
  | 4, _ => exact getO_bad rfl
  | 5, _ => exact getO_bad rfl
  | 6, _ => exact getO_few (l := (tupO o).take 2) rfl 2 (by omega) rfl
  | 7, _ => exact getO_bad rfl
  | 8, _ => exact getO_bad rfl
  | 9, _ => exact getO_few (l := (tupO o).take 3) rfl 3 (by omega) rfl
  | 10, _ => exact getO_bad rfl
  | 11, _ => exact getO_bad rfl
  | 12, _ => exact getO_few (l := (tupO o).take 4) rfl 4 (by omega) rfl
  | 13, _ => exact getO_bad rfl
  | 14, _ => exact getO_bad rfl
end Go.Proofs.YtbeimfhodgmjhaaDoor
