/- xid.Get, as the evaluator answers it. No conditions. -/
import Derived.Test.YtbeimfhodgmjhaaDoorXiP
import Derived.Test.YtbeimfhodgmjhaaDoorExtV
import Derived.Test.YtbeimfhodgmjhaaDoorS5
set_option linter.unusedSimpArgs false
set_option linter.unusedVariables false
set_option maxRecDepth 100000
set_option maxHeartbeats 4000000
namespace Go.Proofs.YtbeimfhodgmjhaaDoor
open Go Go.Ab
def toXi : AV → Option Xi
  | .agg [.int .u32 f, .int .u32 t, .int .i64 sl, .int .i64 n, .bool an, .str nk] => if (Xi.mk f t sl n an nk).ok then some ⟨f, t, sl, n, an, nk⟩ else none
  | _ => none
theorem toXi_of {v : AV} {x : Xi} (h : toXi v = some x) : v = .agg x.cells ∧ x.ok := by
  unfold toXi at h
  split at h
  · split at h
    · rename_i ho; cases h; exact ⟨rfl, ho⟩
    · cases h
  · cases h
theorem toXi_cells (x : Xi) (h : x.ok) : toXi (.agg x.cells) = some x := if_pos h
theorem Xi.flat (x : Xi) : Ab.flat (.agg x.cells) = true := rfl
def hXPut : List AV → St → Option AV
  | [v], _ => (toXi v).map fun x => .tup [.str (if x.may then putX x else []), .bool (decide x.may)]
  | _, _ => none
theorem pureXPut : PureV evK 47 hXPut := pureV_of (by
  intro args s v hv
  unfold hXPut at hv
  split at hv
  · obtain ⟨x, hx, rfl⟩ := Option.map_eq_some_iff.1 hv
    obtain ⟨rfl, ho⟩ := toXi_of hx
    exact ⟨rfl, by simp [flatL, x.flat], _, xput_val (x.nk.length + 2) x ho (by omega) (by omega)⟩
  · cases hv)
def hGet4 : List AV → St → Option AV
  | [.str (a :: b :: c :: d :: r)], _ => some (.int .u32 (num4 a b c d))
  | _, _ => none
theorem puGet4 : PureOk (evK 1000) 78 hGet4 := pureOk_of (by
  intro args s v hv
  unfold hGet4 at hv
  split at hv
  · rename_i a b c d r
    cases hv
    refine ⟨rfl, rfl, ?_⟩
    rw [show (1000 : Nat) = 999 + 1 from rfl, xget4_ev]; rfl
  · cases hv)
def lstX (f : Nat) : Option (List AV → St → Option AV) := if f = 47 then some (hXPut) else if f = 78 then some (hGet4) else if f = 54 then some (hSPut) else if f = 56 then some (hSGet) else none
noncomputable def extX := extWith extK lstX
theorem extX_ok : ∀ w0, ExtOk Tryd.prog tabGl w0 extX := extOk_addV (tableOf_ok _) mixed tab_flat (extK_ok) lstX (by
  intro f h hf
  unfold lstX at hf
  rcases some_of hf with ⟨rfl, rfl⟩ | hf
  · exact ⟨by rw [tab47]; rfl, pureXPut⟩
  rcases some_of hf with ⟨rfl, rfl⟩ | hf
  · exact ⟨by rw [tab78]; rfl, .of 1000 puGet4⟩
  rcases some_of hf with ⟨rfl, rfl⟩ | hf
  · exact ⟨by rw [tab54]; rfl, .of 1000 puS54⟩
  rcases some_of hf with ⟨rfl, rfl⟩ | hf
  · exact ⟨by rw [tab56]; rfl, .of 1000 puS56⟩
  cases hf)
noncomputable def evX : Nat → Calls' := evF tabGl (tableOf Tryd.prog) extX
theorem evX_ok (w0 : World) (k : Nat) : CallOk Tryd.prog tabGl w0 (evX k) := evF_sound (tableOf_ok _) (extX_ok w0) mixed k
theorem evX_in {k f : Nat} {m : MFun} (hx : extX f = none) (hF : tableOf Tryd.prog f = some m) (args : List AV) (s : St) :
    evX (k + 1) f args s = outR m.res (evC tabGl (evX k) k m.body (env0 m.ntmps args) s) := evF_in hx hF args s
theorem x47 (k : Nat) (x : Xi) (h : x.ok) (s : St) : evX (k + 1) 47 [.agg x.cells] s = some (.tup [.str (if x.may then putX x else []), .bool (decide x.may)], s) := evF_ext (H := hXPut) rfl (by
  show (toXi (.agg x.cells)).map _ = _
  rw [toXi_cells x h]; rfl)
theorem x78 (a b c d : UInt8) (r : List UInt8) (k : Nat) (s : St) : evX (k + 1) 78 [.str (a :: b :: c :: d :: r)] s = some (.int .u32 (num4 a b c d), s) := evF_ext (H := hGet4) rfl rfl
/-! Get. -/
def rdX (t : List UInt8) : Option Xi := match t with
  | a0 :: a1 :: a2 :: a3 :: b0 :: b1 :: b2 :: b3 :: c :: d :: e :: r => some ⟨num4 a0 a1 a2 a3, num4 b0 b1 b2 b3, if (e.toNat : Int) = 255 then -1 else (e.toNat : Int), (d.toNat : Int), ((c.toNat : Int) == 1), r⟩
  | _ => none
def getX (t : List UInt8) : Option Xi := match rdX t with
  | some x => if x.may ∧ putX x = t then some x else none
  | none => none
def zeroX : List AV := xiC 0 0 0 0 false []
def getXV (r : Option Xi) : AV := match r with
  | some x => .tup [.agg x.cells, .bool true]
  | none => .tup [.agg zeroX, .bool false]
theorem short11 (t : List UInt8) : t.length < 11 ∨ ∃ a0 a1 a2 a3 b0 b1 b2 b3 c d e r, t = a0 :: a1 :: a2 :: a3 :: b0 :: b1 :: b2 :: b3 :: c :: d :: e :: r := by
  rcases short10 t with h | ⟨a0, a1, a2, a3, b0, b1, b2, b3, c, d, r, rfl⟩
  · exact .inl (by omega)
  · cases r with
    | nil => exact .inl (by simp)
    | cons e r => exact .inr ⟨a0, a1, a2, a3, b0, b1, b2, b3, c, d, e, r, rfl⟩
theorem rdX_short {t : List UInt8} (h : t.length < 11) : rdX t = none := by
  unfold rdX
  split
  · simp at h
    omega
  · rfl
theorem rdX_putX (x : Xi) (hx : x.ok) (h : x.may) : rdX (putX x) = some x := by
  obtain ⟨f, t, sl, n, an, nk⟩ := x
  have hn : (n = 1 ∨ n = 6 ∨ n = 8) ∧ -1 ≤ sl ∧ sl < n := by have := h.2; simp only at this; omega
  have e1 : num4 (UInt8.ofNat f.toNat) (UInt8.ofNat (f / 256).toNat) (UInt8.ofNat (f / 65536).toNat) (UInt8.ofNat (f / 16777216).toNat) = f := num4_four f hx.1
  have e2 : num4 (UInt8.ofNat t.toNat) (UInt8.ofNat (t / 256).toNat) (UInt8.ofNat (t / 65536).toNat) (UInt8.ofNat (t / 16777216).toNat) = t := num4_four t hx.2
  have e3 : (if ((slB sl).toNat : Int) = 255 then -1 else ((slB sl).toNat : Int)) = sl := by
    unfold slB
    by_cases g : sl < 0
    · rw [if_pos g]
      show (if (255 : Int) = 255 then (-1 : Int) else 255) = sl
      rw [if_pos rfl]; omega
    · rw [if_neg g]
      have : ((UInt8.ofNat sl.toNat).toNat : Int) = sl := by simp; omega
      rw [this, if_neg (by omega)]
  have e4 : ((UInt8.ofNat n.toNat).toNat : Int) = n := by simp; omega
  have e5 : (((if an = true then 1 else 0 : UInt8).toNat : Int) == 1) = an := by cases an <;> rfl
  show some (Xi.mk (num4 (UInt8.ofNat f.toNat) (UInt8.ofNat (f / 256).toNat) (UInt8.ofNat (f / 65536).toNat) (UInt8.ofNat (f / 16777216).toNat)) (num4 (UInt8.ofNat t.toNat) (UInt8.ofNat (t / 256).toNat) (UInt8.ofNat (t / 65536).toNat) (UInt8.ofNat (t / 16777216).toNat)) (if ((slB sl).toNat : Int) = 255 then -1 else ((slB sl).toNat : Int)) ((UInt8.ofNat n.toNat).toNat : Int) (((if an = true then 1 else 0 : UInt8).toNat : Int) == 1) nk) = _
  rw [e1, e2, e3, e4, e5]
theorem x_f0 (a0 a1 a2 a3 a4 a5 : AV) (k : IntKind) (n : Int) : fill1 [a0, a1, a2, a3, a4, a5] 0 1 (.int k n) = some [.int k n, a1, a2, a3, a4, a5] := fill1_c _ _ _ rfl (by simp)
theorem x_f1 (a0 a1 a2 a3 a4 a5 : AV) (k : IntKind) (n : Int) : fill1 [a0, a1, a2, a3, a4, a5] 1 1 (.int k n) = some [a0, .int k n, a2, a3, a4, a5] := fill1_c _ _ _ rfl (by simp)
theorem x_f2 (a0 a1 a2 a3 a4 a5 : AV) (k : IntKind) (n : Int) : fill1 [a0, a1, a2, a3, a4, a5] 2 1 (.int k n) = some [a0, a1, .int k n, a3, a4, a5] := fill1_c _ _ _ rfl (by simp)
theorem x_f3 (a0 a1 a2 a3 a4 a5 : AV) (k : IntKind) (n : Int) : fill1 [a0, a1, a2, a3, a4, a5] 3 1 (.int k n) = some [a0, a1, a2, .int k n, a4, a5] := fill1_c _ _ _ rfl (by simp)
theorem x_f4 (a0 a1 a2 a3 a4 a5 : AV) (b : Bool) : fill1 [a0, a1, a2, a3, a4, a5] 4 1 (.bool b) = some [a0, a1, a2, a3, .bool b, a5] := fill1_c _ _ _ rfl (by simp)
theorem x_f5 (a0 a1 a2 a3 a4 a5 : AV) (b : List UInt8) : fill1 [a0, a1, a2, a3, a4, a5] 5 1 (.str b) = some [a0, a1, a2, a3, a4, .str b] := fill1_c _ _ _ rfl (by simp)
theorem x_eql8 (a b : Int) : binV .eql (.int .u8 a) (.int .u8 b) = some (.bool (a == b)) := (id rfl)
theorem xget_long (T r U : List UInt8) (f g : Int) (hf : is32 f) (hg : is32 g) (c d e : UInt8) (hr : r.length ≤ 900) (d0 : decide (((T.length : Nat) : Int) < 11) = false)
    (g1 : ∀ s, evX 999 78 [.str T] s = some (.int .u32 f, s)) (g2 : ∀ s, evX 999 78 [.str U] s = some (.int .u32 g, s))
    (s4 : slcS (.str T) (some (.int .i64 4)) none = some (.str U)) (s11 : slcS (.str T) (some (.int .i64 11)) none = some (.str r))
    (x8 : ixsV (.str T) (.int .i64 8) = some (.int .u8 (c.toNat : Int))) (x9 : ixsV (.str T) (.int .i64 9) = some (.int .u8 (d.toNat : Int))) (x10 : ixsV (.str T) (.int .i64 10) = some (.int .u8 (e.toNat : Int))) :
    valR (outR M50.res (evC tabGl (evX 999) 999 M50.body (env0 M50.ntmps [.str T]) (St.nil.pl []))) = some (getXV (if (Xi.mk f g (if (e.toNat : Int) = 255 then -1 else (e.toNat : Int)) d.toNat ((c.toNat : Int) == 1) r).may ∧ putX ⟨f, g, if (e.toNat : Int) = 255 then -1 else (e.toNat : Int), d.toNat, ((c.toNat : Int) == 1), r⟩ = T then some ⟨f, g, if (e.toNat : Int) = 255 then -1 else (e.toNat : Int), d.toNat, ((c.toNat : Int) == 1), r⟩ else none)) := by
  have lst : lensV' (.str T) = some (.int .i64 (T.length : Nat)) := rfl
  have ud := u8i d
  have ue := u8i e
  obtain ⟨an, han⟩ : ∃ an, ((c.toNat : Int) == 1) = an := ⟨_, rfl⟩
  rw [han]
  obtain ⟨n, hn⟩ : ∃ n, (d.toNat : Int) = n := ⟨_, rfl⟩
  obtain ⟨q, hq⟩ : ∃ q, (e.toNat : Int) = q := ⟨_, rfl⟩
  rw [hn] at x9 ud
  rw [hq] at x10 ue
  rw [hn, hq]
  obtain ⟨sl, hsl⟩ : ∃ sl, (if q = 255 then -1 else q) = sl := ⟨_, rfl⟩
  rw [hsl]
  have h47 := x47 998 ⟨f, g, sl, n, an, r⟩ ⟨hf, hg⟩
  simp only [Xi.cells, xiC] at h47
  obtain ⟨R, hR⟩ : ∃ R, (if (Xi.mk f g sl n an r).may ∧ putX ⟨f, g, sl, n, an, r⟩ = T then some (Xi.mk f g sl n an r) else none) = R := ⟨_, rfl⟩
  rw [hR]
  have hq0 : ((q == 255) = true ∧ sl = -1) ∨ ((q == 255) = false ∧ sl = q) := by
    by_cases h : q = 255
    · exact .inl ⟨by simp [h], by rw [← hsl, if_pos h]⟩
    · exact .inr ⟨by simp [h], by rw [← hsl, if_neg h]⟩
  clear hsl
  by_cases gm : (Xi.mk f g sl n an r).may
  · rw [if_pos gm, decide_eq_true gm] at h47
    obtain ⟨P, hP⟩ : ∃ P, putX ⟨f, g, sl, n, an, r⟩ = P := ⟨_, rfl⟩
    rw [hP] at h47 hR
    by_cases ge : P = T
    · rw [if_pos ⟨gm, ge⟩] at hR
      subst ge
      subst hR
      have qe : binV .neq (.str P) (.str P) = some (.bool false) := (by
        show some (AV.bool (P != P)) = _
        simp)
      rcases hq0 with ⟨hq1, rfl⟩ | ⟨hq1, rfl⟩
      all_goals
        simp only [M50, lst, d0, g1, g2, s4, s11, x8, x9, x10, ud, ue, han, hq1, h47, qe, x_f0, x_f1, x_f2, x_f3, x_f4, x_f5, x_cut6, x_res6, x_st6, x_eql8, getXV, Xi.cells, xiC, ev1_build, fill_nil, conv_int, ev1_ixsV, ev1_slsV, ev1_lensV', ev1_extV, qES0, qES1, qES2, env0, List.length_cons, List.length_nil, Nat.reduceAdd, Nat.reduceSub, List.replicate, List.cons_append, List.nil_append, opd, Env.put, Env.at, List.set_cons_zero, List.set_cons_succ, List.getD_cons_zero, List.getD_cons_succ, freezeL, resVs, oneOr, Option.map_some, Option.map_none, List.map_cons, List.map_nil, if_true, if_false, Bool.not_true, Bool.not_false, Bool.false_eq_true, reduceIte, decide_true, decide_false, Int.reduceLT, Int.reduceLE, Int.reduceGT, Int.reduceGE, Int.reduceEq, Int.reduceBEq, Int.reduceBNe, load_ptr, ldV_some, cellAt_cells, List.getElem?_cons_zero, List.getElem?_cons_succ, store_ptr, stO_some, setAt_0, setAt_1, setAt_2, setAt_3, setAt_4, setAt_5, setAt_6, setAt_7, setAt_8, setAt_9, setAt_10, setAt_11, setAt_12, cells_int, cells_bool, cells_str, cells_nils, cells_nilp, cells_ptr, cells_sl, cells_u8, cells_u16, cells_agg, get_upd_is, Option.isSome_some, upd_upd, ev1_nchkV, ev1_faV, nchkV_ptr, faV_ptr, ev1_extV, extV_tup, eqptr_nil, eqptr_ptr, Nat.zero_add, Nat.add_zero, qPL0, qPL1, qPL2, qPL3, qPL4, qPL5, beq_self_eq_true, qED0, qED1, placeR]
        rw [drawR_ok]; case h => simp (config := { decide := true }) [calm, calmPair, calmTwo, List.range, List.range.loop, sameO_refl, plg0, plg1, plg2, plg3, plg4, plg5, plg6, plg7, plg8, plg9, plg10, plg11, plg12, plg13]
        simp only [lst, d0, g1, g2, s4, s11, x8, x9, x10, ud, ue, han, hq1, h47, qe, x_f0, x_f1, x_f2, x_f3, x_f4, x_f5, x_cut6, x_res6, x_st6, x_eql8, getXV, Xi.cells, xiC, ev1_build, fill_nil, conv_int, ev1_ixsV, ev1_slsV, ev1_lensV', ev1_extV, qES0, qES1, qES2, env0, List.length_cons, List.length_nil, Nat.reduceAdd, Nat.reduceSub, List.replicate, List.cons_append, List.nil_append, opd, Env.put, Env.at, List.set_cons_zero, List.set_cons_succ, List.getD_cons_zero, List.getD_cons_succ, freezeL, resVs, oneOr, Option.map_some, Option.map_none, List.map_cons, List.map_nil, if_true, if_false, Bool.not_true, Bool.not_false, Bool.false_eq_true, reduceIte, decide_true, decide_false, Int.reduceLT, Int.reduceLE, Int.reduceGT, Int.reduceGE, Int.reduceEq, Int.reduceBEq, Int.reduceBNe, load_ptr, ldV_some, cellAt_cells, List.getElem?_cons_zero, List.getElem?_cons_succ, store_ptr, stO_some, setAt_0, setAt_1, setAt_2, setAt_3, setAt_4, setAt_5, setAt_6, setAt_7, setAt_8, setAt_9, setAt_10, setAt_11, setAt_12, cells_int, cells_bool, cells_str, cells_nils, cells_nilp, cells_ptr, cells_sl, cells_u8, cells_u16, cells_agg, get_upd_is, Option.isSome_some, upd_upd, ev1_nchkV, ev1_faV, nchkV_ptr, faV_ptr, ev1_extV, extV_tup, eqptr_nil, eqptr_ptr, Nat.zero_add, Nat.add_zero, qPL0, qPL1, qPL2, qPL3, qPL4, qPL5, beq_self_eq_true, qED0, qED1, placeR]
    · rw [if_neg (fun h => ge h.2)] at hR
      subst hR
      have qe : binV .neq (.str P) (.str T) = some (.bool true) := by
        show some (AV.bool (P != T)) = _
        simp [ge]
      rcases hq0 with ⟨hq1, rfl⟩ | ⟨hq1, rfl⟩
      all_goals
        simp only [M50, lst, d0, g1, g2, s4, s11, x8, x9, x10, ud, ue, han, hq1, h47, qe, x_f0, x_f1, x_f2, x_f3, x_f4, x_f5, x_cut6, x_res6, x_st6, x_eql8, getXV, zeroX, xiC, ev1_build, fill_nil, conv_int, ev1_ixsV, ev1_slsV, ev1_lensV', ev1_extV, qES0, qES1, qES2, env0, List.length_cons, List.length_nil, Nat.reduceAdd, Nat.reduceSub, List.replicate, List.cons_append, List.nil_append, opd, Env.put, Env.at, List.set_cons_zero, List.set_cons_succ, List.getD_cons_zero, List.getD_cons_succ, freezeL, resVs, oneOr, Option.map_some, Option.map_none, List.map_cons, List.map_nil, if_true, if_false, Bool.not_true, Bool.not_false, Bool.false_eq_true, reduceIte, decide_true, decide_false, Int.reduceLT, Int.reduceLE, Int.reduceGT, Int.reduceGE, Int.reduceEq, Int.reduceBEq, Int.reduceBNe, load_ptr, ldV_some, cellAt_cells, List.getElem?_cons_zero, List.getElem?_cons_succ, store_ptr, stO_some, setAt_0, setAt_1, setAt_2, setAt_3, setAt_4, setAt_5, setAt_6, setAt_7, setAt_8, setAt_9, setAt_10, setAt_11, setAt_12, cells_int, cells_bool, cells_str, cells_nils, cells_nilp, cells_ptr, cells_sl, cells_u8, cells_u16, cells_agg, get_upd_is, Option.isSome_some, upd_upd, ev1_nchkV, ev1_faV, nchkV_ptr, faV_ptr, ev1_extV, extV_tup, eqptr_nil, eqptr_ptr, Nat.zero_add, Nat.add_zero, qPL0, qPL1, qPL2, qPL3, qPL4, qPL5, beq_self_eq_true, qED0, qED1, placeR]
        rw [drawR_ok]; case h => simp (config := { decide := true }) [calm, calmPair, calmTwo, List.range, List.range.loop, sameO_refl, plg0, plg1, plg2, plg3, plg4, plg5, plg6, plg7, plg8, plg9, plg10, plg11, plg12, plg13]
        simp only [lst, d0, g1, g2, s4, s11, x8, x9, x10, ud, ue, han, hq1, h47, qe, x_f0, x_f1, x_f2, x_f3, x_f4, x_f5, x_cut6, x_res6, x_st6, x_eql8, getXV, zeroX, xiC, ev1_build, fill_nil, conv_int, ev1_ixsV, ev1_slsV, ev1_lensV', ev1_extV, qES0, qES1, qES2, env0, List.length_cons, List.length_nil, Nat.reduceAdd, Nat.reduceSub, List.replicate, List.cons_append, List.nil_append, opd, Env.put, Env.at, List.set_cons_zero, List.set_cons_succ, List.getD_cons_zero, List.getD_cons_succ, freezeL, resVs, oneOr, Option.map_some, Option.map_none, List.map_cons, List.map_nil, if_true, if_false, Bool.not_true, Bool.not_false, Bool.false_eq_true, reduceIte, decide_true, decide_false, Int.reduceLT, Int.reduceLE, Int.reduceGT, Int.reduceGE, Int.reduceEq, Int.reduceBEq, Int.reduceBNe, load_ptr, ldV_some, cellAt_cells, List.getElem?_cons_zero, List.getElem?_cons_succ, store_ptr, stO_some, setAt_0, setAt_1, setAt_2, setAt_3, setAt_4, setAt_5, setAt_6, setAt_7, setAt_8, setAt_9, setAt_10, setAt_11, setAt_12, cells_int, cells_bool, cells_str, cells_nils, cells_nilp, cells_ptr, cells_sl, cells_u8, cells_u16, cells_agg, get_upd_is, Option.isSome_some, upd_upd, ev1_nchkV, ev1_faV, nchkV_ptr, faV_ptr, ev1_extV, extV_tup, eqptr_nil, eqptr_ptr, Nat.zero_add, Nat.add_zero, qPL0, qPL1, qPL2, qPL3, qPL4, qPL5, beq_self_eq_true, qED0, qED1, placeR]
  · rw [if_neg gm, decide_eq_false gm] at h47
    rw [if_neg (fun h => gm h.1)] at hR
    subst hR
    rcases hq0 with ⟨hq1, rfl⟩ | ⟨hq1, rfl⟩
    all_goals
      simp only [M50, lst, d0, g1, g2, s4, s11, x8, x9, x10, ud, ue, han, hq1, h47, x_f0, x_f1, x_f2, x_f3, x_f4, x_f5, x_cut6, x_res6, x_st6, x_eql8, getXV, zeroX, xiC, ev1_build, fill_nil, conv_int, ev1_ixsV, ev1_slsV, ev1_lensV', ev1_extV, qES0, qES1, qES2, env0, List.length_cons, List.length_nil, Nat.reduceAdd, Nat.reduceSub, List.replicate, List.cons_append, List.nil_append, opd, Env.put, Env.at, List.set_cons_zero, List.set_cons_succ, List.getD_cons_zero, List.getD_cons_succ, freezeL, resVs, oneOr, Option.map_some, Option.map_none, List.map_cons, List.map_nil, if_true, if_false, Bool.not_true, Bool.not_false, Bool.false_eq_true, reduceIte, decide_true, decide_false, Int.reduceLT, Int.reduceLE, Int.reduceGT, Int.reduceGE, Int.reduceEq, Int.reduceBEq, Int.reduceBNe, load_ptr, ldV_some, cellAt_cells, List.getElem?_cons_zero, List.getElem?_cons_succ, store_ptr, stO_some, setAt_0, setAt_1, setAt_2, setAt_3, setAt_4, setAt_5, setAt_6, setAt_7, setAt_8, setAt_9, setAt_10, setAt_11, setAt_12, cells_int, cells_bool, cells_str, cells_nils, cells_nilp, cells_ptr, cells_sl, cells_u8, cells_u16, cells_agg, get_upd_is, Option.isSome_some, upd_upd, ev1_nchkV, ev1_faV, nchkV_ptr, faV_ptr, ev1_extV, extV_tup, eqptr_nil, eqptr_ptr, Nat.zero_add, Nat.add_zero, qPL0, qPL1, qPL2, qPL3, qPL4, qPL5, beq_self_eq_true, qED0, qED1, placeR]
      rw [drawR_ok]; case h => simp (config := { decide := true }) [calm, calmPair, calmTwo, List.range, List.range.loop, sameO_refl, plg0, plg1, plg2, plg3, plg4, plg5, plg6, plg7, plg8, plg9, plg10, plg11, plg12, plg13]
      simp only [lst, d0, g1, g2, s4, s11, x8, x9, x10, ud, ue, han, hq1, h47, x_f0, x_f1, x_f2, x_f3, x_f4, x_f5, x_cut6, x_res6, x_st6, x_eql8, getXV, zeroX, xiC, ev1_build, fill_nil, conv_int, ev1_ixsV, ev1_slsV, ev1_lensV', ev1_extV, qES0, qES1, qES2, env0, List.length_cons, List.length_nil, Nat.reduceAdd, Nat.reduceSub, List.replicate, List.cons_append, List.nil_append, opd, Env.put, Env.at, List.set_cons_zero, List.set_cons_succ, List.getD_cons_zero, List.getD_cons_succ, freezeL, resVs, oneOr, Option.map_some, Option.map_none, List.map_cons, List.map_nil, if_true, if_false, Bool.not_true, Bool.not_false, Bool.false_eq_true, reduceIte, decide_true, decide_false, Int.reduceLT, Int.reduceLE, Int.reduceGT, Int.reduceGE, Int.reduceEq, Int.reduceBEq, Int.reduceBNe, load_ptr, ldV_some, cellAt_cells, List.getElem?_cons_zero, List.getElem?_cons_succ, store_ptr, stO_some, setAt_0, setAt_1, setAt_2, setAt_3, setAt_4, setAt_5, setAt_6, setAt_7, setAt_8, setAt_9, setAt_10, setAt_11, setAt_12, cells_int, cells_bool, cells_str, cells_nils, cells_nilp, cells_ptr, cells_sl, cells_u8, cells_u16, cells_agg, get_upd_is, Option.isSome_some, upd_upd, ev1_nchkV, ev1_faV, nchkV_ptr, faV_ptr, ev1_extV, extV_tup, eqptr_nil, eqptr_ptr, Nat.zero_add, Nat.add_zero, qPL0, qPL1, qPL2, qPL3, qPL4, qPL5, beq_self_eq_true, qED0, qED1, placeR]
theorem xget_val (t : List UInt8) (hl : t.length ≤ 800) : valR (evX 1000 50 [.str t] St.nil) = some (getXV (getX t)) := by
  rw [show (1000 : Nat) = 999 + 1 from rfl, evX_in rfl tab50, show St.nil = St.nil.pl [] from rfl]
  have lst : lensV' (.str t) = some (.int .i64 (t.length : Nat)) := rfl
  rcases short11 t with h | ⟨a0, a1, a2, a3, b0, b1, b2, b3, c, d, e, r, rfl⟩
  · have d0 : decide (((t.length : Nat) : Int) < 11) = true := decide_eq_true (by omega)
    have hR : getX t = none := by unfold getX; rw [rdX_short h]
    rw [hR]
    simp only [M50, lst, d0, getXV, zeroX, xiC, x_st6, x_res6, ev1_build, fill_nil, ev1_lensV', qES0, qES1, qES2, env0, List.length_cons, List.length_nil, Nat.reduceAdd, Nat.reduceSub, List.replicate, List.cons_append, List.nil_append, opd, Env.put, Env.at, List.set_cons_zero, List.set_cons_succ, List.getD_cons_zero, List.getD_cons_succ, freezeL, resVs, oneOr, Option.map_some, Option.map_none, List.map_cons, List.map_nil, if_true, if_false, Bool.not_true, Bool.not_false, Bool.false_eq_true, reduceIte, decide_true, decide_false, Int.reduceLT, Int.reduceLE, Int.reduceGT, Int.reduceGE, Int.reduceEq, Int.reduceBEq, Int.reduceBNe, load_ptr, ldV_some, cellAt_cells, List.getElem?_cons_zero, List.getElem?_cons_succ, store_ptr, stO_some, setAt_0, setAt_1, setAt_2, setAt_3, setAt_4, setAt_5, setAt_6, setAt_7, setAt_8, setAt_9, setAt_10, setAt_11, setAt_12, cells_int, cells_bool, cells_str, cells_nils, cells_nilp, cells_ptr, cells_sl, cells_u8, cells_u16, cells_agg, get_upd_is, Option.isSome_some, upd_upd, ev1_nchkV, ev1_faV, nchkV_ptr, faV_ptr, ev1_extV, extV_tup, eqptr_nil, eqptr_ptr, Nat.zero_add, Nat.add_zero, qPL0, qPL1, qPL2, qPL3, qPL4, qPL5, beq_self_eq_true]
  · have d0 : decide ((((a0 :: a1 :: a2 :: a3 :: b0 :: b1 :: b2 :: b3 :: c :: d :: e :: r).length : Nat) : Int) < 11) = false := decide_eq_false (by simp; omega)
    exact xget_long _ r (b0 :: b1 :: b2 :: b3 :: c :: d :: e :: r) _ _ (num4_32 _ _ _ _) (num4_32 _ _ _ _) c d e (by simp at hl; omega) d0 (x78 a0 a1 a2 a3 (b0 :: b1 :: b2 :: b3 :: c :: d :: e :: r) 998) (x78 b0 b1 b2 b3 (c :: d :: e :: r) 998)
      (slcS_from (a0 :: a1 :: a2 :: a3 :: b0 :: b1 :: b2 :: b3 :: c :: d :: e :: r) 4 (by simp)) (slcS_from (a0 :: a1 :: a2 :: a3 :: b0 :: b1 :: b2 :: b3 :: c :: d :: e :: r) 11 (by simp))
      (ixsV_at (a0 :: a1 :: a2 :: a3 :: b0 :: b1 :: b2 :: b3 :: c :: d :: e :: r) 8 (by simp)) (ixsV_at (a0 :: a1 :: a2 :: a3 :: b0 :: b1 :: b2 :: b3 :: c :: d :: e :: r) 9 (by simp)) (ixsV_at (a0 :: a1 :: a2 :: a3 :: b0 :: b1 :: b2 :: b3 :: c :: d :: e :: r) 10 (by simp))
def hXGet : List AV → St → Option AV
  | [.str s], _ => if s.length ≤ 800 then some (getXV (getX s)) else none
  | _, _ => none
theorem pureXGet {call : Calls'} {F : Nat} (h : ∀ s, s.length ≤ 800 → valR (call F [.str s] St.nil) = some (getXV (getX s))) : PureOk call F hXGet := pureOk_of (by
  intro args s v hv
  unfold hXGet at hv
  split at hv
  · split at hv
    · rename_i hl
      cases hv
      refine ⟨?_, rfl, h _ hl⟩
      cases getX _ <;> rfl
    · cases hv
  · cases hv)
theorem puY50 : PureOk (evX 1000) 50 (hXGet) := (pureXGet xget_val)
def lstY (f : Nat) : Option (List AV → St → Option AV) := if f = 50 then some (hXGet) else none
noncomputable def extY := extWith extX lstY
theorem extY_ok : ∀ w0, ExtOk Tryd.prog tabGl w0 extY := extOk_add (tableOf_ok _) mixed tab_flat (extX_ok) lstY (by
  intro f h hf
  unfold lstY at hf
  rcases some_of hf with ⟨rfl, rfl⟩ | hf
  · exact ⟨by rw [tab50]; rfl, 1000, puY50⟩
  cases hf)
noncomputable def evY : Nat → Calls' := evF tabGl (tableOf Tryd.prog) extY
theorem evY_ok (w0 : World) (k : Nat) : CallOk Tryd.prog tabGl w0 (evY k) := evF_sound (tableOf_ok _) (extY_ok w0) mixed k
theorem evY_in {k f : Nat} {m : MFun} (hx : extY f = none) (hF : tableOf Tryd.prog f = some m) (args : List AV) (s : St) :
    evY (k + 1) f args s = outR m.res (evC tabGl (evY k) k m.body (env0 m.ntmps args) s) := evF_in hx hF args s
theorem y21 (k : Nat) (s : St) : evY (k + 1) 21 [] s = some (.bool true, s) := evF_ext (H := hTrue) rfl rfl
theorem y22 (k : Nat) (l : List UInt8) (n : Nat) (s : St) : evY (k + 1) 22 [.str l, .int .i64 (n : Int)] s = some (.str (l.take n), s) := evF_ext (H := hText) rfl (by
  show (if (0 : Int) ≤ (n : Int) then some (AV.str (l.take ((n : Int)).toNat)) else none) = _
  rw [if_pos (by omega), Int.toNat_natCast])
theorem y47 (k : Nat) (x : Xi) (h : x.ok) (s : St) : evY (k + 1) 47 [.agg x.cells] s = some (.tup [.str (if x.may then putX x else []), .bool (decide x.may)], s) := evF_ext (H := hXPut) rfl (by
  show (toXi (.agg x.cells)).map _ = _
  rw [toXi_cells x h]; rfl)
theorem y50 (k : Nat) (t : List UInt8) (hl : t.length ≤ 800) (s : St) : evY (k + 1) 50 [.str t] s = some (getXV (getX t), s) := evF_ext (H := hXGet) rfl (if_pos hl)
end Go.Proofs.YtbeimfhodgmjhaaDoor
