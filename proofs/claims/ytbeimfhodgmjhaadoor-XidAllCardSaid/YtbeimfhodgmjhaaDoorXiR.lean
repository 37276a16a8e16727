/- The document's words of devices: MayXid, PutXid, GetXid, as the evaluator answers them. No conditions. -/
import Derived.Test.YtbeimfhodgmjhaaDoorXiG
import Derived.Test.YtbeimfhodgmjhaaDoorR1
import Derived.Test.YtbeimfhodgmjhaaDoorFre3
import Derived.Test.YtbeimfhodgmjhaaDoorBsi
set_option linter.unusedSimpArgs false
set_option linter.unusedVariables false
set_option maxRecDepth 100000
set_option maxHeartbeats 4000000
namespace Go.Proofs.YtbeimfhodgmjhaaDoor
open Go Go.Ab
instance decIs32 (n : Int) : Decidable (is32 n) := inferInstanceAs (Decidable (_ ∧ _))
def hFour : List AV → St → Option AV
  | [.int .u32 n], _ => if is32 n then some (.str (four n)) else none
  | _, _ => none
theorem puFour : PureOk (evK 1000) 75 hFour := pureOk_of (by
  intro args s v hv
  unfold hFour at hv
  split at hv
  · split at hv
    · rename_i n ho
      cases hv
      obtain ⟨s', h1, _⟩ := four_ev 999 n ho St.nil
      exact ⟨rfl, rfl, by rw [h1]; rfl⟩
    · cases hv
  · cases hv)
def hNick : List AV → St → Option AV
  | [.str l], _ => if l.length ≤ 900 then some (.bool (mayN l)) else none
  | _, _ => none
theorem puRNick : PureV evK 91 hNick := pureV_of (by
  intro args s v hv
  unfold hNick at hv
  split at hv
  · split at hv
    · rename_i l ho
      cases hv
      exact ⟨rfl, rfl, 0 + l.length + 8, by rw [rnick_gen 0 l (by omega) St.nil]; rfl⟩
    · cases hv
  · cases hv)
theorem puNum : PureOk (evK 1000) 79 hGet4 := pureOk_of (by
  intro args s v hv
  unfold hGet4 at hv
  split at hv
  · rename_i a b c d r
    cases hv
    refine ⟨rfl, rfl, ?_⟩
    rw [show (1000 : Nat) = 999 + 1 from rfl, number_ev]; rfl
  · cases hv)
def hOwn : List AV → St → Option AV
  | [.int .u32 n], _ => some (.bool (nmd n))
  | _, _ => none
theorem puOwn : PureOk (evK 1000) 59 hOwn := pureOk_of (by
  intro args s v hv
  unfold hOwn at hv
  split at hv
  · rename_i n
    cases hv
    refine ⟨rfl, rfl, ?_⟩
    rw [show (1000 : Nat) = 999 + 1 from rfl, own_ev]; rfl
  · cases hv)
def hXMay : List AV → St → Option AV
  | [v], _ => (toXi v).bind fun x => if x.nk.length ≤ 900 then some (.bool (decide x.may)) else none
  | _, _ => none
theorem puXMay : PureOk (evK 1000) 49 hXMay := pureOk_of (by
  intro args s v hv
  unfold hXMay at hv
  split at hv
  · obtain ⟨x, hx, h2⟩ := Option.bind_eq_some_iff.1 hv
    split at h2
    · rename_i hl
      cases h2
      obtain ⟨rfl, ho⟩ := toXi_of hx
      obtain ⟨s', h1, _⟩ := xmay_val 998 x (by omega) (by omega) St.nil
      exact ⟨rfl, by simp [flatL, x.flat], by rw [show (1000 : Nat) = 998 + 2 from rfl, h1]; rfl⟩
    · cases h2
  · cases hv)
theorem puFresh : PureOk (evK 999) 52 hFresh := pureFresh (fun h g hd hn => fresh_val h g hd hn)
theorem puRFresh : PureOk (evK 999) 53 hFresh := pureFresh (fun h g hd hn => rfresh_val h g hd hn)
def lstU (f : Nat) : Option (List AV → St → Option AV) := if f = 75 then some hFour else if f = 91 then some hNick else if f = 79 then some hGet4 else if f = 59 then some hOwn else if f = 49 then some hXMay else if f = 52 then some hFresh else if f = 53 then some hFresh else none
noncomputable def extU := extWith extY lstU
theorem extU_ok : ∀ w0, ExtOk Tryd.prog tabGl w0 extU := extOk_addW (tableOf_ok _) mixed tab_flat extY_ok extK_ok lstU (by
  intro f h hf
  unfold lstU at hf
  rcases some_of hf with ⟨rfl, rfl⟩ | hf
  · exact ⟨by rw [tab75]; rfl, .of 1000 puFour⟩
  rcases some_of hf with ⟨rfl, rfl⟩ | hf
  · exact ⟨by rw [tab91]; rfl, puRNick⟩
  rcases some_of hf with ⟨rfl, rfl⟩ | hf
  · exact ⟨by rw [tab79]; rfl, .of 1000 puNum⟩
  rcases some_of hf with ⟨rfl, rfl⟩ | hf
  · exact ⟨by rw [tab59]; rfl, .of 1000 puOwn⟩
  rcases some_of hf with ⟨rfl, rfl⟩ | hf
  · exact ⟨by rw [tab49]; rfl, .of 1000 puXMay⟩
  rcases some_of hf with ⟨rfl, rfl⟩ | hf
  · exact ⟨by rw [tab52]; rfl, .of 999 puFresh⟩
  rcases some_of hf with ⟨rfl, rfl⟩ | hf
  · exact ⟨by rw [tab53]; rfl, .of 999 puRFresh⟩
  cases hf)
noncomputable def evU : Nat → Calls' := evF tabGl (tableOf Tryd.prog) extU
theorem evU_ok (w0 : World) (k : Nat) : CallOk Tryd.prog tabGl w0 (evU k) := evF_sound (tableOf_ok _) (extU_ok w0) mixed k
theorem evU_in {k f : Nat} {m : MFun} (hx : extU f = none) (hF : tableOf Tryd.prog f = some m) (args : List AV) (s : St) :
    evU (k + 1) f args s = outR m.res (evC tabGl (evU k) k m.body (env0 m.ntmps args) s) := evF_in hx hF args s
theorem u75 (k : Nat) (n : Int) (h : is32 n) (s : St) : evU (k + 1) 75 [.int .u32 n] s = some (.str (four n), s) := evF_ext (H := hFour) rfl (if_pos h)
theorem u91 (k : Nat) (l : List UInt8) (h : l.length ≤ 900) (s : St) : evU (k + 1) 91 [.str l] s = some (.bool (mayN l), s) := evF_ext (H := hNick) rfl (if_pos h)
theorem u79 (a b c d : UInt8) (r : List UInt8) (k : Nat) (s : St) : evU (k + 1) 79 [.str (a :: b :: c :: d :: r)] s = some (.int .u32 (num4 a b c d), s) := evF_ext (H := hGet4) rfl rfl
theorem u59 (k : Nat) (n : Int) (s : St) : evU (k + 1) 59 [.int .u32 n] s = some (.bool (nmd n), s) := evF_ext (H := hOwn) rfl rfl
/-! MayXid. -/
theorem rxmay_val (x : Xi) (hl : x.nk.length ≤ 900) : valR (evU 1000 74 [.agg x.cells] St.nil) = some (.bool (decide x.may)) := by
  obtain ⟨f, t, sl, n, an, nk⟩ := x
  have n1 := u59 998 f
  have hp := u91 998 nk hl
  rw [show (1000 : Nat) = 999 + 1 from rfl, evU_in rfl tab74, show St.nil = St.nil.pl [] from rfl]
  obtain ⟨R, hR⟩ : ∃ R, decide (nmd f = true ∧ (n = 1 ∨ n = 6 ∨ n = 8) ∧ -1 ≤ sl ∧ sl < n ∧ mayN nk = true) = R := ⟨_, rfl⟩
  show _ = some (AV.bool (decide (nmd f = true ∧ (n = 1 ∨ n = 6 ∨ n = 8) ∧ -1 ≤ sl ∧ sl < n ∧ mayN nk = true)))
  rw [hR]
  have ne : ∀ {b : Bool}, (R = b) → ∀ v : Option AV, v = some (AV.bool b) → v = some (AV.bool R) := by
    rintro b rfl v rfl; rfl
  have sn : ((n == 1) = true ∧ (n == 1) = true ∧ (n == 1) = true) ∨ ((n == 1) = false ∧ (n == 6) = true ∧ (n == 6) = true) ∨ ((n == 1) = false ∧ (n == 6) = false ∧ (n == 8) = true) ∨ ((n == 1) = false ∧ (n == 6) = false ∧ (n == 8) = false) := by
    simp only [beq_iff_eq, beq_eq_false_iff_ne]; omega
  rcases sn with ⟨h, h', h''⟩ | ⟨h, h', h''⟩ | ⟨h, h', h''⟩ | ⟨h, h', h''⟩
  case inr.inr.inr =>
    refine ne (b := false) (by rw [← hR]; refine decide_eq_false (fun q => ?_); have := q.2.1; simp only [beq_eq_false_iff_ne] at h h' h''; omega) _ ?_
    rcases Bool.eq_false_or_eq_true (nmd f) with h1 | h1
    · rw [h1] at n1
      simp only [M74, Xi.cells, xiC, n1, h, h', h'', ev1_boxV, qES0, qES1, qES2, env0, List.length_cons, List.length_nil, Nat.reduceAdd, Nat.reduceSub, List.replicate, List.cons_append, List.nil_append, opd, Env.put, Env.at, List.set_cons_zero, List.set_cons_succ, List.getD_cons_zero, List.getD_cons_succ, freezeL, resVs, oneOr, Option.map_some, Option.map_none, List.map_cons, List.map_nil, if_true, if_false, Bool.not_true, Bool.not_false, Bool.false_eq_true, reduceIte, decide_true, decide_false, Int.reduceLT, Int.reduceLE, Int.reduceGT, Int.reduceGE, Int.reduceEq, Int.reduceBEq, Int.reduceBNe, load_ptr, ldV_some, cellAt_cells, List.getElem?_cons_zero, List.getElem?_cons_succ, store_ptr, stO_some, setAt_0, setAt_1, setAt_2, setAt_3, setAt_4, setAt_5, setAt_6, setAt_7, setAt_8, setAt_9, setAt_10, setAt_11, setAt_12, cells_int, cells_bool, cells_str, cells_nils, cells_nilp, cells_ptr, cells_sl, cells_u8, cells_u16, cells_agg, get_upd_is, Option.isSome_some, upd_upd, ev1_nchkV, ev1_faV, nchkV_ptr, faV_ptr, ev1_extV, extV_tup, eqptr_nil, eqptr_ptr, Nat.zero_add, Nat.add_zero, qPL0, qPL1, qPL2, qPL3, qPL4, qPL5, beq_self_eq_true]
    · rw [h1] at n1
      simp only [M74, Xi.cells, xiC, n1, h, h', h'', ev1_boxV, qES0, qES1, qES2, env0, List.length_cons, List.length_nil, Nat.reduceAdd, Nat.reduceSub, List.replicate, List.cons_append, List.nil_append, opd, Env.put, Env.at, List.set_cons_zero, List.set_cons_succ, List.getD_cons_zero, List.getD_cons_succ, freezeL, resVs, oneOr, Option.map_some, Option.map_none, List.map_cons, List.map_nil, if_true, if_false, Bool.not_true, Bool.not_false, Bool.false_eq_true, reduceIte, decide_true, decide_false, Int.reduceLT, Int.reduceLE, Int.reduceGT, Int.reduceGE, Int.reduceEq, Int.reduceBEq, Int.reduceBNe, load_ptr, ldV_some, cellAt_cells, List.getElem?_cons_zero, List.getElem?_cons_succ, store_ptr, stO_some, setAt_0, setAt_1, setAt_2, setAt_3, setAt_4, setAt_5, setAt_6, setAt_7, setAt_8, setAt_9, setAt_10, setAt_11, setAt_12, cells_int, cells_bool, cells_str, cells_nils, cells_nilp, cells_ptr, cells_sl, cells_u8, cells_u16, cells_agg, get_upd_is, Option.isSome_some, upd_upd, ev1_nchkV, ev1_faV, nchkV_ptr, faV_ptr, ev1_extV, extV_tup, eqptr_nil, eqptr_ptr, Nat.zero_add, Nat.add_zero, qPL0, qPL1, qPL2, qPL3, qPL4, qPL5, beq_self_eq_true]
  all_goals
    have hn : n = 1 ∨ n = 6 ∨ n = 8 := by simp only [beq_iff_eq, beq_eq_false_iff_ne] at *; omega
    rcases Bool.eq_false_or_eq_true (nmd f) with h1 | h1
    · rw [h1] at n1
      by_cases g1 : -1 ≤ sl
      · have d1 : decide (sl ≥ -1) = true := decide_eq_true g1
        by_cases g2 : sl < n
        · have d2 : decide (sl < n) = true := decide_eq_true g2
          obtain rfl : R = mayN nk := by
            rw [← hR]
            rcases Bool.eq_false_or_eq_true (mayN nk) with h2 | h2
            · rw [h2]; exact decide_eq_true ⟨h1, hn, g1, g2, rfl⟩
            · rw [h2]; exact decide_eq_false (fun q => by cases q.2.2.2.2)
          simp only [M74, Xi.cells, xiC, n1, h, h', h'', d1, d2, hp, ev1_boxV, qES0, qES1, qES2, env0, List.length_cons, List.length_nil, Nat.reduceAdd, Nat.reduceSub, List.replicate, List.cons_append, List.nil_append, opd, Env.put, Env.at, List.set_cons_zero, List.set_cons_succ, List.getD_cons_zero, List.getD_cons_succ, freezeL, resVs, oneOr, Option.map_some, Option.map_none, List.map_cons, List.map_nil, if_true, if_false, Bool.not_true, Bool.not_false, Bool.false_eq_true, reduceIte, decide_true, decide_false, Int.reduceLT, Int.reduceLE, Int.reduceGT, Int.reduceGE, Int.reduceEq, Int.reduceBEq, Int.reduceBNe, load_ptr, ldV_some, cellAt_cells, List.getElem?_cons_zero, List.getElem?_cons_succ, store_ptr, stO_some, setAt_0, setAt_1, setAt_2, setAt_3, setAt_4, setAt_5, setAt_6, setAt_7, setAt_8, setAt_9, setAt_10, setAt_11, setAt_12, cells_int, cells_bool, cells_str, cells_nils, cells_nilp, cells_ptr, cells_sl, cells_u8, cells_u16, cells_agg, get_upd_is, Option.isSome_some, upd_upd, ev1_nchkV, ev1_faV, nchkV_ptr, faV_ptr, ev1_extV, extV_tup, eqptr_nil, eqptr_ptr, Nat.zero_add, Nat.add_zero, qPL0, qPL1, qPL2, qPL3, qPL4, qPL5, beq_self_eq_true]
        · have d2 : decide (sl < n) = false := decide_eq_false g2
          refine ne (b := false) (by rw [← hR]; exact decide_eq_false (fun q => g2 q.2.2.2.1)) _ ?_
          simp only [M74, Xi.cells, xiC, n1, h, h', h'', d1, d2, ev1_boxV, qES0, qES1, qES2, env0, List.length_cons, List.length_nil, Nat.reduceAdd, Nat.reduceSub, List.replicate, List.cons_append, List.nil_append, opd, Env.put, Env.at, List.set_cons_zero, List.set_cons_succ, List.getD_cons_zero, List.getD_cons_succ, freezeL, resVs, oneOr, Option.map_some, Option.map_none, List.map_cons, List.map_nil, if_true, if_false, Bool.not_true, Bool.not_false, Bool.false_eq_true, reduceIte, decide_true, decide_false, Int.reduceLT, Int.reduceLE, Int.reduceGT, Int.reduceGE, Int.reduceEq, Int.reduceBEq, Int.reduceBNe, load_ptr, ldV_some, cellAt_cells, List.getElem?_cons_zero, List.getElem?_cons_succ, store_ptr, stO_some, setAt_0, setAt_1, setAt_2, setAt_3, setAt_4, setAt_5, setAt_6, setAt_7, setAt_8, setAt_9, setAt_10, setAt_11, setAt_12, cells_int, cells_bool, cells_str, cells_nils, cells_nilp, cells_ptr, cells_sl, cells_u8, cells_u16, cells_agg, get_upd_is, Option.isSome_some, upd_upd, ev1_nchkV, ev1_faV, nchkV_ptr, faV_ptr, ev1_extV, extV_tup, eqptr_nil, eqptr_ptr, Nat.zero_add, Nat.add_zero, qPL0, qPL1, qPL2, qPL3, qPL4, qPL5, beq_self_eq_true]
      · have d1 : decide (sl ≥ -1) = false := decide_eq_false g1
        refine ne (b := false) (by rw [← hR]; exact decide_eq_false (fun q => g1 q.2.2.1)) _ ?_
        simp only [M74, Xi.cells, xiC, n1, h, h', h'', d1, ev1_boxV, qES0, qES1, qES2, env0, List.length_cons, List.length_nil, Nat.reduceAdd, Nat.reduceSub, List.replicate, List.cons_append, List.nil_append, opd, Env.put, Env.at, List.set_cons_zero, List.set_cons_succ, List.getD_cons_zero, List.getD_cons_succ, freezeL, resVs, oneOr, Option.map_some, Option.map_none, List.map_cons, List.map_nil, if_true, if_false, Bool.not_true, Bool.not_false, Bool.false_eq_true, reduceIte, decide_true, decide_false, Int.reduceLT, Int.reduceLE, Int.reduceGT, Int.reduceGE, Int.reduceEq, Int.reduceBEq, Int.reduceBNe, load_ptr, ldV_some, cellAt_cells, List.getElem?_cons_zero, List.getElem?_cons_succ, store_ptr, stO_some, setAt_0, setAt_1, setAt_2, setAt_3, setAt_4, setAt_5, setAt_6, setAt_7, setAt_8, setAt_9, setAt_10, setAt_11, setAt_12, cells_int, cells_bool, cells_str, cells_nils, cells_nilp, cells_ptr, cells_sl, cells_u8, cells_u16, cells_agg, get_upd_is, Option.isSome_some, upd_upd, ev1_nchkV, ev1_faV, nchkV_ptr, faV_ptr, ev1_extV, extV_tup, eqptr_nil, eqptr_ptr, Nat.zero_add, Nat.add_zero, qPL0, qPL1, qPL2, qPL3, qPL4, qPL5, beq_self_eq_true]
    · rw [h1] at n1
      refine ne (b := false) (by rw [← hR]; exact decide_eq_false (fun q => by have := q.1; rw [h1] at this; cases this)) _ ?_
      simp only [M74, Xi.cells, xiC, n1, h, h', h'', ev1_boxV, qES0, qES1, qES2, env0, List.length_cons, List.length_nil, Nat.reduceAdd, Nat.reduceSub, List.replicate, List.cons_append, List.nil_append, opd, Env.put, Env.at, List.set_cons_zero, List.set_cons_succ, List.getD_cons_zero, List.getD_cons_succ, freezeL, resVs, oneOr, Option.map_some, Option.map_none, List.map_cons, List.map_nil, if_true, if_false, Bool.not_true, Bool.not_false, Bool.false_eq_true, reduceIte, decide_true, decide_false, Int.reduceLT, Int.reduceLE, Int.reduceGT, Int.reduceGE, Int.reduceEq, Int.reduceBEq, Int.reduceBNe, load_ptr, ldV_some, cellAt_cells, List.getElem?_cons_zero, List.getElem?_cons_succ, store_ptr, stO_some, setAt_0, setAt_1, setAt_2, setAt_3, setAt_4, setAt_5, setAt_6, setAt_7, setAt_8, setAt_9, setAt_10, setAt_11, setAt_12, cells_int, cells_bool, cells_str, cells_nils, cells_nilp, cells_ptr, cells_sl, cells_u8, cells_u16, cells_agg, get_upd_is, Option.isSome_some, upd_upd, ev1_nchkV, ev1_faV, nchkV_ptr, faV_ptr, ev1_extV, extV_tup, eqptr_nil, eqptr_ptr, Nat.zero_add, Nat.add_zero, qPL0, qPL1, qPL2, qPL3, qPL4, qPL5, beq_self_eq_true]
theorem puRXMay : PureOk (evU 1000) 74 hXMay := pureOk_of (by
  intro args s v hv
  unfold hXMay at hv
  split at hv
  · obtain ⟨x, hx, h2⟩ := Option.bind_eq_some_iff.1 hv
    split at h2
    · rename_i hl
      cases h2
      obtain ⟨rfl, ho⟩ := toXi_of hx
      exact ⟨rfl, by simp [flatL, x.flat], rxmay_val x hl⟩
    · cases h2
  · cases hv)
def lstU2 (f : Nat) : Option (List AV → St → Option AV) := if f = 74 then some hXMay else none
noncomputable def extU2 := extWith extU lstU2
theorem extU2_ok : ∀ w0, ExtOk Tryd.prog tabGl w0 extU2 := extOk_add (tableOf_ok _) mixed tab_flat extU_ok lstU2 (by
  intro f h hf
  unfold lstU2 at hf
  rcases some_of hf with ⟨rfl, rfl⟩ | hf
  · exact ⟨by rw [tab74]; rfl, 1000, puRXMay⟩
  cases hf)
noncomputable def evU2 : Nat → Calls' := evF tabGl (tableOf Tryd.prog) extU2
theorem evU2_ok (w0 : World) (k : Nat) : CallOk Tryd.prog tabGl w0 (evU2 k) := evF_sound (tableOf_ok _) (extU2_ok w0) mixed k
theorem evU2_in {k f : Nat} {m : MFun} (hx : extU2 f = none) (hF : tableOf Tryd.prog f = some m) (args : List AV) (s : St) :
    evU2 (k + 1) f args s = outR m.res (evC tabGl (evU2 k) k m.body (env0 m.ntmps args) s) := evF_in hx hF args s
theorem v75 (k : Nat) (n : Int) (h : is32 n) (s : St) : evU2 (k + 1) 75 [.int .u32 n] s = some (.str (four n), s) := evF_ext (H := hFour) rfl (if_pos h)
theorem v79 (a b c d : UInt8) (r : List UInt8) (k : Nat) (s : St) : evU2 (k + 1) 79 [.str (a :: b :: c :: d :: r)] s = some (.int .u32 (num4 a b c d), s) := evF_ext (H := hGet4) rfl rfl
theorem v74 (k : Nat) (x : Xi) (h : x.ok) (hl : x.nk.length ≤ 900) (s : St) : evU2 (k + 1) 74 [.agg x.cells] s = some (.bool (decide x.may), s) := evF_ext (H := hXMay) rfl (by
  show (toXi (.agg x.cells)).bind _ = _
  rw [toXi_cells x h]
  exact if_pos hl)
/-! PutXid. -/
theorem b2s_three (a b c : UInt8) (tk) : convP .b2s (.sl [u8v a, u8v b, u8v c] 3 tk) = some (.str [a, b, c]) := by
  show (toBytes (bytesAV [a, b, c])).map AV.str = _
  rw [toBytes_bytesAV]; rfl

theorem rxput_val (x : Xi) (hx : x.ok) (hl : x.nk.length ≤ 900) : valR (evU2 1000 48 [.agg x.cells] St.nil) = some (.tup [.str (if x.may then putX x else []), .bool (decide x.may)]) := by
  have m1 := v74 998 x hx hl
  obtain ⟨f, t, sl, n, an, nk⟩ := x
  rw [show (1000 : Nat) = 999 + 1 from rfl, evU2_in rfl tab48, show St.nil = St.nil.pl [] from rfl]
  by_cases g : Xi.may ⟨f, t, sl, n, an, nk⟩
  · rw [decide_eq_true g] at m1
    rw [if_pos g, decide_eq_true g]
    have hn : 0 ≤ n ∧ n ≤ 255 ∧ -1 ≤ sl ∧ sl < 8 := by have := g.2; simp only at this; omega
    have p1 := v75 998 f hx.1
    have p2 := v75 998 t hx.2
    have b1 := u8of n hn.1 hn.2.1
    have b2 := slB_v sl hn.2.2.1 hn.2.2.2
    have hnk : nk.length ≤ 900 := hl
    cases an with
    | false =>
      have e : putX ⟨f, t, sl, n, false, nk⟩ = four f ++ four t ++ [0, UInt8.ofNat n.toNat, slB sl] ++ nk := by simp [putX]
      rw [e]
      have s1 := str_add (four f) (four t) (by simp [four])
      have s2 := str_add (four f ++ four t) [0, UInt8.ofNat n.toNat, slB sl] (by simp [four])
      have s3 := str_add (four f ++ four t ++ [0, UInt8.ofNat n.toNat, slB sl]) nk (by simp [four]; omega)
      have b4 : convP .b2s (.sl [.int .u8 0, u8v (UInt8.ofNat n.toNat), u8v (slB sl)] 3 none) = some (.str [0, UInt8.ofNat n.toNat, slB sl]) := b2s_three 0 _ _ none
      simp only [Xi.cells, xiC] at m1
      simp only [M48, Xi.cells, xiC, m1, p1, p2, b1, b2, b4, s1, s2, s3, x_cut6, fill_3u_0, fill_3u_1, fill_3u_2, conv_int, az_bsi, bk_bsi, ev1_bsiR, bsiR_sl, ev1_boxV, ev1_extV, qES0, qES1, qES2, env0, List.length_cons, List.length_nil, Nat.reduceAdd, Nat.reduceSub, List.replicate, List.cons_append, List.nil_append, opd, Env.put, Env.at, List.set_cons_zero, List.set_cons_succ, List.getD_cons_zero, List.getD_cons_succ, freezeL, resVs, oneOr, Option.map_some, Option.map_none, List.map_cons, List.map_nil, if_true, if_false, Bool.not_true, Bool.not_false, Bool.false_eq_true, reduceIte, decide_true, decide_false, Int.reduceLT, Int.reduceLE, Int.reduceGT, Int.reduceGE, Int.reduceEq, Int.reduceBEq, Int.reduceBNe, load_ptr, ldV_some, cellAt_cells, List.getElem?_cons_zero, List.getElem?_cons_succ, store_ptr, stO_some, setAt_0, setAt_1, setAt_2, setAt_3, setAt_4, setAt_5, setAt_6, setAt_7, setAt_8, setAt_9, setAt_10, setAt_11, setAt_12, cells_int, cells_bool, cells_str, cells_nils, cells_nilp, cells_ptr, cells_sl, cells_u8, cells_u16, cells_agg, get_upd_is, Option.isSome_some, upd_upd, ev1_nchkV, ev1_faV, nchkV_ptr, faV_ptr, ev1_extV, extV_tup, eqptr_nil, eqptr_ptr, Nat.zero_add, Nat.add_zero, qPL0, qPL1, qPL2, qPL3, qPL4, qPL5, beq_self_eq_true, qED0, qED1, placeR]
      rw [drawR_ok]; case h => simp (config := { decide := true }) [calm, calmPair, calmTwo, List.range, List.range.loop, sameO_refl, plg0]
      simp only [qES0, qES1, qES2, env0, List.length_cons, List.length_nil, Nat.reduceAdd, Nat.reduceSub, List.replicate, List.cons_append, List.nil_append, opd, Env.put, Env.at, List.set_cons_zero, List.set_cons_succ, List.getD_cons_zero, List.getD_cons_succ, freezeL, resVs, oneOr, Option.map_some, Option.map_none, List.map_cons, List.map_nil, if_true, if_false, Bool.not_true, Bool.not_false, Bool.false_eq_true, reduceIte, decide_true, decide_false, Int.reduceLT, Int.reduceLE, Int.reduceGT, Int.reduceGE, Int.reduceEq, Int.reduceBEq, Int.reduceBNe, load_ptr, ldV_some, cellAt_cells, List.getElem?_cons_zero, List.getElem?_cons_succ, store_ptr, stO_some, setAt_0, setAt_1, setAt_2, setAt_3, setAt_4, setAt_5, setAt_6, setAt_7, setAt_8, setAt_9, setAt_10, setAt_11, setAt_12, cells_int, cells_bool, cells_str, cells_nils, cells_nilp, cells_ptr, cells_sl, cells_u8, cells_u16, cells_agg, get_upd_is, Option.isSome_some, upd_upd, ev1_nchkV, ev1_faV, nchkV_ptr, faV_ptr, ev1_extV, extV_tup, eqptr_nil, eqptr_ptr, Nat.zero_add, Nat.add_zero, qPL0, qPL1, qPL2, qPL3, qPL4, qPL5, beq_self_eq_true]
    | true =>
      have e : putX ⟨f, t, sl, n, true, nk⟩ = four f ++ four t ++ [1, UInt8.ofNat n.toNat, slB sl] ++ nk := by simp [putX]
      rw [e]
      have s1 := str_add (four f) (four t) (by simp [four])
      have s2 := str_add (four f ++ four t) [1, UInt8.ofNat n.toNat, slB sl] (by simp [four])
      have s3 := str_add (four f ++ four t ++ [1, UInt8.ofNat n.toNat, slB sl]) nk (by simp [four]; omega)
      have b4 : convP .b2s (.sl [.int .u8 1, u8v (UInt8.ofNat n.toNat), u8v (slB sl)] 3 none) = some (.str [1, UInt8.ofNat n.toNat, slB sl]) := b2s_three 1 _ _ none
      simp only [Xi.cells, xiC] at m1
      simp only [M48, Xi.cells, xiC, m1, p1, p2, b1, b2, b4, s1, s2, s3, x_cut6, fill_3u_0, fill_3u_1, fill_3u_2, conv_int, az_bsi, bk_bsi, ev1_bsiR, bsiR_sl, ev1_boxV, ev1_extV, qES0, qES1, qES2, env0, List.length_cons, List.length_nil, Nat.reduceAdd, Nat.reduceSub, List.replicate, List.cons_append, List.nil_append, opd, Env.put, Env.at, List.set_cons_zero, List.set_cons_succ, List.getD_cons_zero, List.getD_cons_succ, freezeL, resVs, oneOr, Option.map_some, Option.map_none, List.map_cons, List.map_nil, if_true, if_false, Bool.not_true, Bool.not_false, Bool.false_eq_true, reduceIte, decide_true, decide_false, Int.reduceLT, Int.reduceLE, Int.reduceGT, Int.reduceGE, Int.reduceEq, Int.reduceBEq, Int.reduceBNe, load_ptr, ldV_some, cellAt_cells, List.getElem?_cons_zero, List.getElem?_cons_succ, store_ptr, stO_some, setAt_0, setAt_1, setAt_2, setAt_3, setAt_4, setAt_5, setAt_6, setAt_7, setAt_8, setAt_9, setAt_10, setAt_11, setAt_12, cells_int, cells_bool, cells_str, cells_nils, cells_nilp, cells_ptr, cells_sl, cells_u8, cells_u16, cells_agg, get_upd_is, Option.isSome_some, upd_upd, ev1_nchkV, ev1_faV, nchkV_ptr, faV_ptr, ev1_extV, extV_tup, eqptr_nil, eqptr_ptr, Nat.zero_add, Nat.add_zero, qPL0, qPL1, qPL2, qPL3, qPL4, qPL5, beq_self_eq_true, qED0, qED1, placeR]
      rw [drawR_ok]; case h => simp (config := { decide := true }) [calm, calmPair, calmTwo, List.range, List.range.loop, sameO_refl, plg0]
      simp only [qES0, qES1, qES2, env0, List.length_cons, List.length_nil, Nat.reduceAdd, Nat.reduceSub, List.replicate, List.cons_append, List.nil_append, opd, Env.put, Env.at, List.set_cons_zero, List.set_cons_succ, List.getD_cons_zero, List.getD_cons_succ, freezeL, resVs, oneOr, Option.map_some, Option.map_none, List.map_cons, List.map_nil, if_true, if_false, Bool.not_true, Bool.not_false, Bool.false_eq_true, reduceIte, decide_true, decide_false, Int.reduceLT, Int.reduceLE, Int.reduceGT, Int.reduceGE, Int.reduceEq, Int.reduceBEq, Int.reduceBNe, load_ptr, ldV_some, cellAt_cells, List.getElem?_cons_zero, List.getElem?_cons_succ, store_ptr, stO_some, setAt_0, setAt_1, setAt_2, setAt_3, setAt_4, setAt_5, setAt_6, setAt_7, setAt_8, setAt_9, setAt_10, setAt_11, setAt_12, cells_int, cells_bool, cells_str, cells_nils, cells_nilp, cells_ptr, cells_sl, cells_u8, cells_u16, cells_agg, get_upd_is, Option.isSome_some, upd_upd, ev1_nchkV, ev1_faV, nchkV_ptr, faV_ptr, ev1_extV, extV_tup, eqptr_nil, eqptr_ptr, Nat.zero_add, Nat.add_zero, qPL0, qPL1, qPL2, qPL3, qPL4, qPL5, beq_self_eq_true]
  · rw [decide_eq_false g] at m1
    rw [if_neg g, decide_eq_false g]
    simp only [Xi.cells, xiC] at m1
    simp only [M48, Xi.cells, xiC, m1, x_cut6, ev1_boxV, ev1_extV, qES0, qES1, qES2, env0, List.length_cons, List.length_nil, Nat.reduceAdd, Nat.reduceSub, List.replicate, List.cons_append, List.nil_append, opd, Env.put, Env.at, List.set_cons_zero, List.set_cons_succ, List.getD_cons_zero, List.getD_cons_succ, freezeL, resVs, oneOr, Option.map_some, Option.map_none, List.map_cons, List.map_nil, if_true, if_false, Bool.not_true, Bool.not_false, Bool.false_eq_true, reduceIte, decide_true, decide_false, Int.reduceLT, Int.reduceLE, Int.reduceGT, Int.reduceGE, Int.reduceEq, Int.reduceBEq, Int.reduceBNe, load_ptr, ldV_some, cellAt_cells, List.getElem?_cons_zero, List.getElem?_cons_succ, store_ptr, stO_some, setAt_0, setAt_1, setAt_2, setAt_3, setAt_4, setAt_5, setAt_6, setAt_7, setAt_8, setAt_9, setAt_10, setAt_11, setAt_12, cells_int, cells_bool, cells_str, cells_nils, cells_nilp, cells_ptr, cells_sl, cells_u8, cells_u16, cells_agg, get_upd_is, Option.isSome_some, upd_upd, ev1_nchkV, ev1_faV, nchkV_ptr, faV_ptr, ev1_extV, extV_tup, eqptr_nil, eqptr_ptr, Nat.zero_add, Nat.add_zero, qPL0, qPL1, qPL2, qPL3, qPL4, qPL5, beq_self_eq_true]
end Go.Proofs.YtbeimfhodgmjhaaDoor
/- The document's GetXid, as the evaluator answers it; all of XidAll's functions. No conditions. -/
set_option linter.unusedSimpArgs false
set_option linter.unusedVariables false
set_option maxRecDepth 100000
set_option maxHeartbeats 4000000
namespace Go.Proofs.YtbeimfhodgmjhaaDoor
open Go Go.Ab
theorem four_num (a b c d : UInt8) : four (num4 a b c d) = [a, b, c, d] := by
  have ha := a.toNat_lt
  have hb := b.toNat_lt
  have hc := c.toNat_lt
  have hd := d.toNat_lt
  unfold four num4
  simp only [List.cons.injEq, and_true]
  refine ⟨UInt8.toNat_inj.1 ?_, UInt8.toNat_inj.1 ?_, UInt8.toNat_inj.1 ?_, UInt8.toNat_inj.1 ?_⟩ <;> simp only [UInt8.toNat_ofNat'] <;> omega
/-- What was read is written again. -/
theorem put_rd (a0 a1 a2 a3 b0 b1 b2 b3 c d e : UInt8) (r : List UInt8) (hc : c.toNat ≤ 1) (hm : (Xi.mk (num4 a0 a1 a2 a3) (num4 b0 b1 b2 b3) (if (e.toNat : Int) = 255 then -1 else (e.toNat : Int)) d.toNat ((c.toNat : Int) == 1) r).may) :
    putX ⟨num4 a0 a1 a2 a3, num4 b0 b1 b2 b3, if (e.toNat : Int) = 255 then -1 else (e.toNat : Int), d.toNat, ((c.toNat : Int) == 1), r⟩ = a0 :: a1 :: a2 :: a3 :: b0 :: b1 :: b2 :: b3 :: c :: d :: e :: r := by
  have he := e.toNat_lt
  unfold putX
  simp only [four_num]
  have e1 : (if ((c.toNat : Int) == 1) = true then (1 : UInt8) else 0) = c := by
    refine UInt8.toNat_inj.1 ?_
    by_cases h : c.toNat = 1
    · rw [if_pos (by simp [h]), h]; rfl
    · rw [if_neg (by simp; omega)]
      have : c.toNat = 0 := by omega
      rw [this]; rfl
  have e2 : UInt8.ofNat ((d.toNat : Int)).toNat = d := by simp
  have e3 : slB (if (e.toNat : Int) = 255 then -1 else (e.toNat : Int)) = e := by
    refine UInt8.toNat_inj.1 ?_
    unfold slB
    by_cases h : (e.toNat : Int) = 255
    · rw [if_pos h, if_pos (by omega)]
      show (255 : Nat) = _
      omega
    · rw [if_neg h, if_neg (by omega)]
      simp
  rw [e1, e2, e3]
  rfl
theorem put_no (x : Xi) (a0 a1 a2 a3 b0 b1 b2 b3 c : UInt8) (r : List UInt8) (hc : 1 < c.toNat) : putX x ≠ a0 :: a1 :: a2 :: a3 :: b0 :: b1 :: b2 :: b3 :: c :: r := by
  intro h
  unfold putX four at h
  simp only [List.cons_append, List.nil_append, List.cons.injEq] at h
  have := h.2.2.2.2.2.2.2.2.1
  rw [← this] at hc
  split at hc
  · exact absurd hc (by decide)
  · exact absurd hc (by decide)
theorem x_gtr8 (a b : Int) : binV .gtr (.int .u8 a) (.int .u8 b) = some (.bool (decide (a > b))) := (id rfl)
theorem rxget_long (T r U : List UInt8) (f g : Int) (hf : is32 f) (hg : is32 g) (c d e : UInt8) (hr : r.length ≤ 900) (d0 : decide (((T.length : Nat) : Int) < 11) = false) (hc : decide ((c.toNat : Int) > 1) = false)
    (g1 : ∀ s, evU2 999 79 [.str T] s = some (.int .u32 f, s)) (g2 : ∀ s, evU2 999 79 [.str U] s = some (.int .u32 g, s))
    (s4 : slcS (.str T) (some (.int .i64 4)) none = some (.str U)) (s11 : slcS (.str T) (some (.int .i64 11)) none = some (.str r))
    (x8 : ixsV (.str T) (.int .i64 8) = some (.int .u8 (c.toNat : Int))) (x9 : ixsV (.str T) (.int .i64 9) = some (.int .u8 (d.toNat : Int))) (x10 : ixsV (.str T) (.int .i64 10) = some (.int .u8 (e.toNat : Int))) :
    valR (outR M51.res (evC tabGl (evU2 999) 999 M51.body (env0 M51.ntmps [.str T]) (St.nil.pl []))) = some (getXV (if (Xi.mk f g (if (e.toNat : Int) = 255 then -1 else (e.toNat : Int)) d.toNat ((c.toNat : Int) == 1) r).may then some ⟨f, g, if (e.toNat : Int) = 255 then -1 else (e.toNat : Int), d.toNat, ((c.toNat : Int) == 1), r⟩ else none)) := by
  have lst : lensV' (.str T) = some (.int .i64 (T.length : Nat)) := rfl
  have ud := u8i d
  have ue := u8i e
  obtain ⟨n, hn⟩ : ∃ n, (d.toNat : Int) = n := ⟨_, rfl⟩
  obtain ⟨q, hq⟩ : ∃ q, (e.toNat : Int) = q := ⟨_, rfl⟩
  obtain ⟨cc, hcc⟩ : ∃ cc, (c.toNat : Int) = cc := ⟨_, rfl⟩
  rw [hn] at x9 ud
  rw [hq] at x10 ue
  rw [hcc] at x8 hc
  rw [hn, hq, hcc]
  obtain ⟨an, han⟩ : ∃ an, (cc == 1) = an := ⟨_, rfl⟩
  rw [han]
  obtain ⟨sl, hsl⟩ : ∃ sl, (if q = 255 then -1 else q) = sl := ⟨_, rfl⟩
  rw [hsl]
  have h74 := v74 998 ⟨f, g, sl, n, an, r⟩ ⟨hf, hg⟩ hr
  simp only [Xi.cells, xiC] at h74
  have hq0 : ((q == 255) = true ∧ sl = -1) ∨ ((q == 255) = false ∧ sl = q) := by
    by_cases h : q = 255
    · exact .inl ⟨by simp [h], by rw [← hsl, if_pos h]⟩
    · exact .inr ⟨by simp [h], by rw [← hsl, if_neg h]⟩
  clear hsl
  by_cases gm : (Xi.mk f g sl n an r).may
  · rw [decide_eq_true gm] at h74
    rw [if_pos gm]
    rcases hq0 with ⟨hq1, rfl⟩ | ⟨hq1, rfl⟩
    all_goals
      simp only [M51, lst, d0, hc, g1, g2, s4, s11, x8, x9, x10, ud, ue, han, hq1, h74, x_f0, x_f1, x_f2, x_f3, x_f4, x_f5, x_cut6, x_res6, x_st6, x_eql8, x_gtr8, getXV, Xi.cells, xiC, ev1_build, fill_nil, conv_int, ev1_ixsV, ev1_slsV, ev1_lensV', ev1_extV, qES0, qES1, qES2, env0, List.length_cons, List.length_nil, Nat.reduceAdd, Nat.reduceSub, List.replicate, List.cons_append, List.nil_append, opd, Env.put, Env.at, List.set_cons_zero, List.set_cons_succ, List.getD_cons_zero, List.getD_cons_succ, freezeL, resVs, oneOr, Option.map_some, Option.map_none, List.map_cons, List.map_nil, if_true, if_false, Bool.not_true, Bool.not_false, Bool.false_eq_true, reduceIte, decide_true, decide_false, Int.reduceLT, Int.reduceLE, Int.reduceGT, Int.reduceGE, Int.reduceEq, Int.reduceBEq, Int.reduceBNe, load_ptr, ldV_some, cellAt_cells, List.getElem?_cons_zero, List.getElem?_cons_succ, store_ptr, stO_some, setAt_0, setAt_1, setAt_2, setAt_3, setAt_4, setAt_5, setAt_6, setAt_7, setAt_8, setAt_9, setAt_10, setAt_11, setAt_12, cells_int, cells_bool, cells_str, cells_nils, cells_nilp, cells_ptr, cells_sl, cells_u8, cells_u16, cells_agg, get_upd_is, Option.isSome_some, upd_upd, ev1_nchkV, ev1_faV, nchkV_ptr, faV_ptr, ev1_extV, extV_tup, eqptr_nil, eqptr_ptr, Nat.zero_add, Nat.add_zero, qPL0, qPL1, qPL2, qPL3, qPL4, qPL5, beq_self_eq_true, qED0, qED1, placeR]
      rw [drawR_ok]; case h => simp (config := { decide := true }) [calm, calmPair, calmTwo, List.range, List.range.loop, sameO_refl, plg0, plg1, plg2, plg3, plg4, plg5, plg6, plg7, plg8, plg9, plg10, plg11, plg12, plg13]
      simp only [lst, d0, hc, g1, g2, s4, s11, x8, x9, x10, ud, ue, han, hq1, h74, x_f0, x_f1, x_f2, x_f3, x_f4, x_f5, x_cut6, x_res6, x_st6, x_eql8, x_gtr8, getXV, Xi.cells, xiC, ev1_build, fill_nil, conv_int, ev1_ixsV, ev1_slsV, ev1_lensV', ev1_extV, qES0, qES1, qES2, env0, List.length_cons, List.length_nil, Nat.reduceAdd, Nat.reduceSub, List.replicate, List.cons_append, List.nil_append, opd, Env.put, Env.at, List.set_cons_zero, List.set_cons_succ, List.getD_cons_zero, List.getD_cons_succ, freezeL, resVs, oneOr, Option.map_some, Option.map_none, List.map_cons, List.map_nil, if_true, if_false, Bool.not_true, Bool.not_false, Bool.false_eq_true, reduceIte, decide_true, decide_false, Int.reduceLT, Int.reduceLE, Int.reduceGT, Int.reduceGE, Int.reduceEq, Int.reduceBEq, Int.reduceBNe, load_ptr, ldV_some, cellAt_cells, List.getElem?_cons_zero, List.getElem?_cons_succ, store_ptr, stO_some, setAt_0, setAt_1, setAt_2, setAt_3, setAt_4, setAt_5, setAt_6, setAt_7, setAt_8, setAt_9, setAt_10, setAt_11, setAt_12, cells_int, cells_bool, cells_str, cells_nils, cells_nilp, cells_ptr, cells_sl, cells_u8, cells_u16, cells_agg, get_upd_is, Option.isSome_some, upd_upd, ev1_nchkV, ev1_faV, nchkV_ptr, faV_ptr, ev1_extV, extV_tup, eqptr_nil, eqptr_ptr, Nat.zero_add, Nat.add_zero, qPL0, qPL1, qPL2, qPL3, qPL4, qPL5, beq_self_eq_true, qED0, qED1, placeR]
  · rw [decide_eq_false gm] at h74
    rw [if_neg gm]
    rcases hq0 with ⟨hq1, rfl⟩ | ⟨hq1, rfl⟩
    all_goals
      simp only [M51, lst, d0, hc, g1, g2, s4, s11, x8, x9, x10, ud, ue, han, hq1, h74, x_f0, x_f1, x_f2, x_f3, x_f4, x_f5, x_cut6, x_res6, x_st6, x_eql8, x_gtr8, getXV, zeroX, xiC, ev1_build, fill_nil, conv_int, ev1_ixsV, ev1_slsV, ev1_lensV', ev1_extV, qES0, qES1, qES2, env0, List.length_cons, List.length_nil, Nat.reduceAdd, Nat.reduceSub, List.replicate, List.cons_append, List.nil_append, opd, Env.put, Env.at, List.set_cons_zero, List.set_cons_succ, List.getD_cons_zero, List.getD_cons_succ, freezeL, resVs, oneOr, Option.map_some, Option.map_none, List.map_cons, List.map_nil, if_true, if_false, Bool.not_true, Bool.not_false, Bool.false_eq_true, reduceIte, decide_true, decide_false, Int.reduceLT, Int.reduceLE, Int.reduceGT, Int.reduceGE, Int.reduceEq, Int.reduceBEq, Int.reduceBNe, load_ptr, ldV_some, cellAt_cells, List.getElem?_cons_zero, List.getElem?_cons_succ, store_ptr, stO_some, setAt_0, setAt_1, setAt_2, setAt_3, setAt_4, setAt_5, setAt_6, setAt_7, setAt_8, setAt_9, setAt_10, setAt_11, setAt_12, cells_int, cells_bool, cells_str, cells_nils, cells_nilp, cells_ptr, cells_sl, cells_u8, cells_u16, cells_agg, get_upd_is, Option.isSome_some, upd_upd, ev1_nchkV, ev1_faV, nchkV_ptr, faV_ptr, ev1_extV, extV_tup, eqptr_nil, eqptr_ptr, Nat.zero_add, Nat.add_zero, qPL0, qPL1, qPL2, qPL3, qPL4, qPL5, beq_self_eq_true, qED0, qED1, placeR]
      rw [drawR_ok]; case h => simp (config := { decide := true }) [calm, calmPair, calmTwo, List.range, List.range.loop, sameO_refl, plg0, plg1, plg2, plg3, plg4, plg5, plg6, plg7, plg8, plg9, plg10, plg11, plg12, plg13]
      simp only [lst, d0, hc, g1, g2, s4, s11, x8, x9, x10, ud, ue, han, hq1, h74, x_f0, x_f1, x_f2, x_f3, x_f4, x_f5, x_cut6, x_res6, x_st6, x_eql8, x_gtr8, getXV, zeroX, xiC, ev1_build, fill_nil, conv_int, ev1_ixsV, ev1_slsV, ev1_lensV', ev1_extV, qES0, qES1, qES2, env0, List.length_cons, List.length_nil, Nat.reduceAdd, Nat.reduceSub, List.replicate, List.cons_append, List.nil_append, opd, Env.put, Env.at, List.set_cons_zero, List.set_cons_succ, List.getD_cons_zero, List.getD_cons_succ, freezeL, resVs, oneOr, Option.map_some, Option.map_none, List.map_cons, List.map_nil, if_true, if_false, Bool.not_true, Bool.not_false, Bool.false_eq_true, reduceIte, decide_true, decide_false, Int.reduceLT, Int.reduceLE, Int.reduceGT, Int.reduceGE, Int.reduceEq, Int.reduceBEq, Int.reduceBNe, load_ptr, ldV_some, cellAt_cells, List.getElem?_cons_zero, List.getElem?_cons_succ, store_ptr, stO_some, setAt_0, setAt_1, setAt_2, setAt_3, setAt_4, setAt_5, setAt_6, setAt_7, setAt_8, setAt_9, setAt_10, setAt_11, setAt_12, cells_int, cells_bool, cells_str, cells_nils, cells_nilp, cells_ptr, cells_sl, cells_u8, cells_u16, cells_agg, get_upd_is, Option.isSome_some, upd_upd, ev1_nchkV, ev1_faV, nchkV_ptr, faV_ptr, ev1_extV, extV_tup, eqptr_nil, eqptr_ptr, Nat.zero_add, Nat.add_zero, qPL0, qPL1, qPL2, qPL3, qPL4, qPL5, beq_self_eq_true, qED0, qED1, placeR]
theorem rxget_val (t : List UInt8) (hl : t.length ≤ 800) : valR (evU2 1000 51 [.str t] St.nil) = some (getXV (getX t)) := by
  rw [show (1000 : Nat) = 999 + 1 from rfl, evU2_in rfl tab51, show St.nil = St.nil.pl [] from rfl]
  have lst : lensV' (.str t) = some (.int .i64 (t.length : Nat)) := rfl
  rcases short11 t with h | ⟨a0, a1, a2, a3, b0, b1, b2, b3, c, d, e, r, rfl⟩
  · have d0 : decide (((t.length : Nat) : Int) < 11) = true := decide_eq_true (by omega)
    have hR : getX t = none := by unfold getX; rw [rdX_short h]
    rw [hR]
    simp only [M51, lst, d0, getXV, zeroX, xiC, x_st6, x_res6, ev1_build, fill_nil, ev1_lensV', qES0, qES1, qES2, env0, List.length_cons, List.length_nil, Nat.reduceAdd, Nat.reduceSub, List.replicate, List.cons_append, List.nil_append, opd, Env.put, Env.at, List.set_cons_zero, List.set_cons_succ, List.getD_cons_zero, List.getD_cons_succ, freezeL, resVs, oneOr, Option.map_some, Option.map_none, List.map_cons, List.map_nil, if_true, if_false, Bool.not_true, Bool.not_false, Bool.false_eq_true, reduceIte, decide_true, decide_false, Int.reduceLT, Int.reduceLE, Int.reduceGT, Int.reduceGE, Int.reduceEq, Int.reduceBEq, Int.reduceBNe, load_ptr, ldV_some, cellAt_cells, List.getElem?_cons_zero, List.getElem?_cons_succ, store_ptr, stO_some, setAt_0, setAt_1, setAt_2, setAt_3, setAt_4, setAt_5, setAt_6, setAt_7, setAt_8, setAt_9, setAt_10, setAt_11, setAt_12, cells_int, cells_bool, cells_str, cells_nils, cells_nilp, cells_ptr, cells_sl, cells_u8, cells_u16, cells_agg, get_upd_is, Option.isSome_some, upd_upd, ev1_nchkV, ev1_faV, nchkV_ptr, faV_ptr, ev1_extV, extV_tup, eqptr_nil, eqptr_ptr, Nat.zero_add, Nat.add_zero, qPL0, qPL1, qPL2, qPL3, qPL4, qPL5, beq_self_eq_true]
  · have d0 : decide ((((a0 :: a1 :: a2 :: a3 :: b0 :: b1 :: b2 :: b3 :: c :: d :: e :: r).length : Nat) : Int) < 11) = false := decide_eq_false (by simp; omega)
    have x8 := ixsV_at (a0 :: a1 :: a2 :: a3 :: b0 :: b1 :: b2 :: b3 :: c :: d :: e :: r) 8 (by simp)
    by_cases hc : 1 < c.toNat
    · have hR : getX (a0 :: a1 :: a2 :: a3 :: b0 :: b1 :: b2 :: b3 :: c :: d :: e :: r) = none := by
        unfold getX
        show (if _ ∧ putX _ = _ then _ else none) = none
        rw [if_neg (fun h => put_no _ _ _ _ _ _ _ _ _ _ _ hc h.2)]
      have hd : decide ((c.toNat : Int) > 1) = true := decide_eq_true (by omega)
      rw [hR]
      have x8' : ixsV (.str (a0 :: a1 :: a2 :: a3 :: b0 :: b1 :: b2 :: b3 :: c :: d :: e :: r)) (.int .i64 8) = some (.int .u8 (c.toNat : Int)) := x8
      clear x8
      generalize a0 :: a1 :: a2 :: a3 :: b0 :: b1 :: b2 :: b3 :: c :: d :: e :: r = T at *
      simp only [M51, lst, d0, hd, x8', x_gtr8, getXV, zeroX, xiC, x_st6, x_res6, ev1_build, fill_nil, ev1_ixsV, ev1_lensV', qES0, qES1, qES2, env0, List.length_cons, List.length_nil, Nat.reduceAdd, Nat.reduceSub, List.replicate, List.cons_append, List.nil_append, opd, Env.put, Env.at, List.set_cons_zero, List.set_cons_succ, List.getD_cons_zero, List.getD_cons_succ, freezeL, resVs, oneOr, Option.map_some, Option.map_none, List.map_cons, List.map_nil, if_true, if_false, Bool.not_true, Bool.not_false, Bool.false_eq_true, reduceIte, decide_true, decide_false, Int.reduceLT, Int.reduceLE, Int.reduceGT, Int.reduceGE, Int.reduceEq, Int.reduceBEq, Int.reduceBNe, load_ptr, ldV_some, cellAt_cells, List.getElem?_cons_zero, List.getElem?_cons_succ, store_ptr, stO_some, setAt_0, setAt_1, setAt_2, setAt_3, setAt_4, setAt_5, setAt_6, setAt_7, setAt_8, setAt_9, setAt_10, setAt_11, setAt_12, cells_int, cells_bool, cells_str, cells_nils, cells_nilp, cells_ptr, cells_sl, cells_u8, cells_u16, cells_agg, get_upd_is, Option.isSome_some, upd_upd, ev1_nchkV, ev1_faV, nchkV_ptr, faV_ptr, ev1_extV, extV_tup, eqptr_nil, eqptr_ptr, Nat.zero_add, Nat.add_zero, qPL0, qPL1, qPL2, qPL3, qPL4, qPL5, beq_self_eq_true]
    · have hd : decide ((c.toNat : Int) > 1) = false := decide_eq_false (by omega)
      have := rxget_long _ r (b0 :: b1 :: b2 :: b3 :: c :: d :: e :: r) _ _ (num4_32 _ _ _ _) (num4_32 _ _ _ _) c d e (by simp at hl; omega) d0 hd (v79 a0 a1 a2 a3 (b0 :: b1 :: b2 :: b3 :: c :: d :: e :: r) 998) (v79 b0 b1 b2 b3 (c :: d :: e :: r) 998)
        (slcS_from (a0 :: a1 :: a2 :: a3 :: b0 :: b1 :: b2 :: b3 :: c :: d :: e :: r) 4 (by simp)) (slcS_from (a0 :: a1 :: a2 :: a3 :: b0 :: b1 :: b2 :: b3 :: c :: d :: e :: r) 11 (by simp))
        x8 (ixsV_at (a0 :: a1 :: a2 :: a3 :: b0 :: b1 :: b2 :: b3 :: c :: d :: e :: r) 9 (by simp)) (ixsV_at (a0 :: a1 :: a2 :: a3 :: b0 :: b1 :: b2 :: b3 :: c :: d :: e :: r) 10 (by simp))
      have hp := put_rd a0 a1 a2 a3 b0 b1 b2 b3 c d e r (by omega)
      have hgx : ∀ X, X = Xi.mk (num4 a0 a1 a2 a3) (num4 b0 b1 b2 b3) (if (e.toNat : Int) = 255 then -1 else (e.toNat : Int)) d.toNat ((c.toNat : Int) == 1) r → getX (a0 :: a1 :: a2 :: a3 :: b0 :: b1 :: b2 :: b3 :: c :: d :: e :: r) = if X.may ∧ putX X = a0 :: a1 :: a2 :: a3 :: b0 :: b1 :: b2 :: b3 :: c :: d :: e :: r then some X else none := by
        rintro X rfl; rfl
      rw [this, hgx _ rfl]
      generalize Xi.mk (num4 a0 a1 a2 a3) (num4 b0 b1 b2 b3) (if (e.toNat : Int) = 255 then -1 else (e.toNat : Int)) d.toNat ((c.toNat : Int) == 1) r = X at *
      by_cases hm : X.may
      · rw [if_pos hm, if_pos ⟨hm, hp hm⟩]
      · rw [if_neg hm, if_neg (fun h => hm h.1)]
/-! All of them known. -/
theorem pureXPut' {call : Calls'} {F : Nat} (h : ∀ x : Xi, x.ok → x.nk.length ≤ 900 → valR (call F [.agg x.cells] St.nil) = some (.tup [.str (if x.may then putX x else []), .bool (decide x.may)])) : PureOk call F (fun args s => match args with
    | [v] => (toXi v).bind fun x => if x.nk.length ≤ 900 then hXPut [v] s else none
    | _ => none) := pureOk_of (by
  intro args s v hv
  split at hv
  · obtain ⟨x, hx, h2⟩ := Option.bind_eq_some_iff.1 hv
    split at h2
    · rename_i hl
      obtain ⟨rfl, ho⟩ := toXi_of hx
      have h3 : (toXi (.agg x.cells)).map (fun x => AV.tup [.str (if x.may then putX x else []), .bool (decide x.may)]) = some v := h2
      rw [toXi_cells x ho] at h3
      cases h3
      exact ⟨rfl, by simp [flatL, x.flat], h x ho hl⟩
    · cases h2
  · cases hv)
def hRXPut : List AV → St → Option AV := fun args s => match args with
    | [v] => (toXi v).bind fun x => if x.nk.length ≤ 900 then hXPut [v] s else none
    | _ => none
theorem puRXPut : PureOk (evU2 1000) 48 hRXPut := pureXPut' rxput_val
theorem puRXGet : PureOk (evU2 1000) 51 hXGet := pureXGet rxget_val
def lstU3 (f : Nat) : Option (List AV → St → Option AV) := if f = 48 then some hRXPut else if f = 51 then some hXGet else none
noncomputable def extU3 := extWith extU2 lstU3
theorem extU3_ok : ∀ w0, ExtOk Tryd.prog tabGl w0 extU3 := extOk_add (tableOf_ok _) mixed tab_flat extU2_ok lstU3 (by
  intro f h hf
  unfold lstU3 at hf
  rcases some_of hf with ⟨rfl, rfl⟩ | hf
  · exact ⟨by rw [tab48]; rfl, 1000, puRXPut⟩
  rcases some_of hf with ⟨rfl, rfl⟩ | hf
  · exact ⟨by rw [tab51]; rfl, 1000, puRXGet⟩
  cases hf)
noncomputable def evU3 : Nat → Calls' := evF tabGl (tableOf Tryd.prog) extU3
theorem evU3_ok (w0 : World) (k : Nat) : CallOk Tryd.prog tabGl w0 (evU3 k) := evF_sound (tableOf_ok _) (extU3_ok w0) mixed k
theorem evU3_in {k f : Nat} {m : MFun} (hx : extU3 f = none) (hF : tableOf Tryd.prog f = some m) (args : List AV) (s : St) :
    evU3 (k + 1) f args s = outR m.res (evC tabGl (evU3 k) k m.body (env0 m.ntmps args) s) := evF_in hx hF args s
theorem w21 (k : Nat) (s : St) : evU3 (k + 1) 21 [] s = some (.bool true, s) := evF_ext (H := hTrue) rfl rfl
theorem w22 (k : Nat) (l : List UInt8) (n : Nat) (s : St) : evU3 (k + 1) 22 [.str l, .int .i64 (n : Int)] s = some (.str (l.take n), s) := evF_ext (H := hText) rfl (by
  show (if (0 : Int) ≤ (n : Int) then some (AV.str (l.take ((n : Int)).toNat)) else none) = _
  rw [if_pos (by omega), Int.toNat_natCast])
theorem w47 (k : Nat) (x : Xi) (h : x.ok) (s : St) : evU3 (k + 1) 47 [.agg x.cells] s = some (.tup [.str (if x.may then putX x else []), .bool (decide x.may)], s) := evF_ext (H := hXPut) rfl (by
  show (toXi (.agg x.cells)).map _ = _
  rw [toXi_cells x h]; rfl)
theorem w48 (k : Nat) (x : Xi) (h : x.ok) (hl : x.nk.length ≤ 900) (s : St) : evU3 (k + 1) 48 [.agg x.cells] s = some (.tup [.str (if x.may then putX x else []), .bool (decide x.may)], s) := evF_ext (H := hRXPut) rfl (by
  show (toXi (.agg x.cells)).bind _ = _
  rw [toXi_cells x h]
  refine (if_pos hl).trans ?_
  show (toXi (.agg x.cells)).map _ = _
  rw [toXi_cells x h]; rfl)
theorem w49 (k : Nat) (x : Xi) (h : x.ok) (hl : x.nk.length ≤ 900) (s : St) : evU3 (k + 1) 49 [.agg x.cells] s = some (.bool (decide x.may), s) := evF_ext (H := hXMay) rfl (by
  show (toXi (.agg x.cells)).bind _ = _
  rw [toXi_cells x h]
  exact if_pos hl)
theorem w50 (k : Nat) (t : List UInt8) (hl : t.length ≤ 800) (s : St) : evU3 (k + 1) 50 [.str t] s = some (getXV (getX t), s) := evF_ext (H := hXGet) rfl (if_pos hl)
theorem w51 (k : Nat) (t : List UInt8) (hl : t.length ≤ 800) (s : St) : evU3 (k + 1) 51 [.str t] s = some (getXV (getX t), s) := evF_ext (H := hXGet) rfl (if_pos hl)
theorem w5x {f : Nat} (hf : extU3 f = extU f) (hu : extU f = extWith extY lstU f) (hl : lstU f = some hFresh) (k : Nat) {v w : AV} {ds no : List Int} (h : IsNums .u32 v ds) (g : IsNums .u32 w no) (hd : ds.length ≤ 100) (hn : no.length ≤ 100) (s : St) :
    evU3 (k + 1) f [v, w] s = some (.tup [.int .u32 (freshZ ds no).1, .int .i64 ((freshZ ds no).2 : Nat)], s) := evF_ext (H := hFresh) (by rw [hf, hu]; unfold extWith; rw [hl]) (by
  show hFresh [dry1 v, dry1 w] s = _
  rw [nums_dry h, nums_dry g]
  show (match toNums v, toNums w with
    | some ds, some no => if ds.length ≤ 100 ∧ no.length ≤ 100 then some (AV.tup [.int .u32 (freshZ ds no).1, .int .i64 ((freshZ ds no).2 : Nat)]) else none
    | _, _ => none) = _
  rw [toNums_mk h, toNums_mk g]
  exact if_pos ⟨hd, hn⟩)
theorem w52 (k : Nat) {v w : AV} {ds no : List Int} (h : IsNums .u32 v ds) (g : IsNums .u32 w no) (hd : ds.length ≤ 100) (hn : no.length ≤ 100) (s : St) :
    evU3 (k + 1) 52 [v, w] s = some (.tup [.int .u32 (freshZ ds no).1, .int .i64 ((freshZ ds no).2 : Nat)], s) := w5x rfl rfl rfl k h g hd hn s
theorem w53 (k : Nat) {v w : AV} {ds no : List Int} (h : IsNums .u32 v ds) (g : IsNums .u32 w no) (hd : ds.length ≤ 100) (hn : no.length ≤ 100) (s : St) :
    evU3 (k + 1) 53 [v, w] s = some (.tup [.int .u32 (freshZ ds no).1, .int .i64 ((freshZ ds no).2 : Nat)], s) := w5x rfl rfl rfl k h g hd hn s
end Go.Proofs.YtbeimfhodgmjhaaDoor
