/- back of layer 4's laws, as the evaluator answers it: true. No conditions. -/
import Derived.Test.YthcblggiojpmcaaDoorTpW
set_option linter.unusedSimpArgs false
set_option linter.unusedVariables false
set_option maxRecDepth 100000
set_option maxHeartbeats 4000000
namespace Go.Proofs.YthcblggiojpmcaaDoor
open Go Go.Ab
theorem putOk_nil : putOk [] := ⟨fun t h => (by cases h), by simp [encL]⟩
theorem back_val (s : List UInt8) : valR (evP' 1000 56 [.str s] St.nil) = some (.bool true) := by
  rw [show (1000 : Nat) = 999 + 1 from rfl, evP'_in rfl tab56, show St.nil = St.nil.pl [] from rfl]
  have h53 := p53 998 s
  have h72 := p72 998 s
  cases hg : getL s with
  | none =>
    rw [hg] at h53 h72
    have i0 : IsTp .nils [] := .inl ⟨rfl, rfl⟩
    have h54 := p54 998 i0 i0 (by simp)
    have h51 := p51 998 i0 (by simp)
    rw [if_pos putOk_nil, decide_eq_true putOk_nil] at h51
    have fz := i0.freeze
    have qb := eqB false
    simp only [getV] at h53 h72
    simp only [M56, h53, h72, h54, h51, fz, qb, ev1_eqv, ev1_extV, qES0, qES1, qES2, env0, List.length_cons, List.length_nil, Nat.reduceAdd, Nat.reduceSub, List.replicate, List.cons_append, List.nil_append, opd, Env.put, Env.at, List.set_cons_zero, List.set_cons_succ, List.getD_cons_zero, List.getD_cons_succ, freezeL, resVs, oneOr, Option.map_some, Option.map_none, List.map_cons, List.map_nil, if_true, if_false, Bool.not_true, Bool.not_false, Bool.false_eq_true, reduceIte, decide_true, decide_false, Int.reduceLT, Int.reduceLE, Int.reduceGT, Int.reduceGE, Int.reduceEq, Int.reduceBEq, Int.reduceBNe, load_ptr, ldV_some, cellAt_cells, List.getElem?_cons_zero, List.getElem?_cons_succ, store_ptr, stO_some, setAt_0, setAt_1, setAt_2, setAt_3, setAt_4, setAt_5, setAt_6, setAt_7, setAt_8, setAt_9, setAt_10, setAt_11, setAt_12, cells_int, cells_bool, cells_str, cells_nils, cells_nilp, cells_ptr, cells_sl, cells_u8, cells_u16, cells_agg, get_upd_is, Option.isSome_some, upd_upd, ev1_nchkV, ev1_faV, nchkV_ptr, faV_ptr, ev1_extV, extV_tup, eqptr_nil, eqptr_ptr, Nat.zero_add, Nat.add_zero, qPL0, qPL1, qPL2, qPL3, qPL4, qPL5, beq_self_eq_true]
  | some l =>
    rw [hg] at h53 h72
    obtain ⟨g1, g2⟩ := getL_enc hg
    have hl : l.length ≤ 100 := by have h1 := encL_ge l; have h2 := g1.2; omega
    have i0 := tpV_is l
    have h54 := p54 998 i0 i0 hl
    have h51 := p51 998 i0 hl
    rw [if_pos g1, decide_eq_true g1, g2] at h51
    have fz := i0.freeze
    have qb := eqB true
    have qs : binV .eql (.str s) (.str s) = some (.bool true) := by
      show some (AV.bool (s == s)) = _
      rw [beq_self_eq_true]
    simp only [getV] at h53 h72
    generalize tpV l = v at *
    simp only [M56, h53, h72, h54, h51, fz, qb, qs, ev1_eqv, ev1_extV, qES0, qES1, qES2, env0, List.length_cons, List.length_nil, Nat.reduceAdd, Nat.reduceSub, List.replicate, List.cons_append, List.nil_append, opd, Env.put, Env.at, List.set_cons_zero, List.set_cons_succ, List.getD_cons_zero, List.getD_cons_succ, freezeL, resVs, oneOr, Option.map_some, Option.map_none, List.map_cons, List.map_nil, if_true, if_false, Bool.not_true, Bool.not_false, Bool.false_eq_true, reduceIte, decide_true, decide_false, Int.reduceLT, Int.reduceLE, Int.reduceGT, Int.reduceGE, Int.reduceEq, Int.reduceBEq, Int.reduceBNe, load_ptr, ldV_some, cellAt_cells, List.getElem?_cons_zero, List.getElem?_cons_succ, store_ptr, stO_some, setAt_0, setAt_1, setAt_2, setAt_3, setAt_4, setAt_5, setAt_6, setAt_7, setAt_8, setAt_9, setAt_10, setAt_11, setAt_12, cells_int, cells_bool, cells_str, cells_nils, cells_nilp, cells_ptr, cells_sl, cells_u8, cells_u16, cells_agg, get_upd_is, Option.isSome_some, upd_upd, ev1_nchkV, ev1_faV, nchkV_ptr, faV_ptr, ev1_extV, extV_tup, eqptr_nil, eqptr_ptr, Nat.zero_add, Nat.add_zero, qPL0, qPL1, qPL2, qPL3, qPL4, qPL5, beq_self_eq_true]
def hBack : List AV → St → Option AV
  | [.str s], _ => some (.bool true)
  | _, _ => none
theorem puBack : PureOk (evP' 1000) 56 hBack := pureOk_of (by
  intro args s v hv
  unfold hBack at hv
  split at hv
  · cases hv
    exact ⟨rfl, rfl, back_val _⟩
  · cases hv)
def lstB (f : Nat) : Option (List AV → St → Option AV) := if f = 56 then some hBack else none
noncomputable def extB := extWith extP lstB
theorem extB_ok : ∀ w0, ExtOk Tryd.prog tabGl w0 extB := extOk_addV (tableOf_ok _) mixed tab_flat extP_ok lstB (by
  intro f h hf
  unfold lstB at hf
  rcases some_of hf with ⟨rfl, rfl⟩ | hf
  · exact ⟨by rw [tab56]; rfl, .of 1000 puBack⟩
  cases hf)
noncomputable def evB : Nat → Calls' := evF tabGl (tableOf Tryd.prog) extB
theorem evB_ok (w0 : World) (k : Nat) : CallOk Tryd.prog tabGl w0 (evB k) := evF_sound (tableOf_ok _) (extB_ok w0) mixed k
theorem evB_in {k f : Nat} {m : MFun} (hx : extB f = none) (hF : tableOf Tryd.prog f = some m) (args : List AV) (s : St) :
    evB (k + 1) f args s = outR m.res (evC tabGl (evB k) k m.body (env0 m.ntmps args) s) := evF_in hx hF args s
theorem b20 (k : Nat) (s : St) : evB (k + 1) 20 [] s = some (.bool true, s) := evF_ext (H := hTrue) rfl rfl
theorem b21 (k : Nat) (l : List UInt8) (n : Nat) (s : St) : evB (k + 1) 21 [.str l, .int .i64 (n : Int)] s = some (.str (l.take n), s) := evF_ext (H := hText) rfl (by
  show (if (0 : Int) ≤ (n : Int) then some (AV.str (l.take ((n : Int)).toNat)) else none) = _
  rw [if_pos (by omega), Int.toNat_natCast])
theorem b50 (k : Nat) {v : AV} {l : List Tp} (h : IsTp v l) (s : St) : evB (k + 1) 50 [v] s = some (tpV (cutT 45 (l.take 8)), s) := evF_ext (H := hFew) rfl (by
  simp only [List.map_cons, List.map_nil, hFew, toTp_is h, Option.map_some])
theorem b51 (k : Nat) {v : AV} {l : List Tp} (h : IsTp v l) (hl : l.length ≤ 100) (s : St) : evB (k + 1) 51 [v] s = some (.tup [.str (if putOk l then encL l else []), .bool (decide (putOk l))], s) := evF_ext (H := hTPut) rfl (by
  simp only [List.map_cons, List.map_nil, hTPut, toTp_is h]; rw [if_pos hl])
theorem b52 (k : Nat) {v : AV} {l : List Tp} (h : IsTp v l) (hl : l.length ≤ 100) (s : St) : evB (k + 1) 52 [v] s = some (.tup [.str (if putOk l then encL l else []), .bool (decide (putOk l))], s) := evF_ext (H := hTPut) rfl (by
  simp only [List.map_cons, List.map_nil, hTPut, toTp_is h]; rw [if_pos hl])
theorem b53 (k : Nat) (t : List UInt8) (s : St) : evB (k + 1) 53 [.str t] s = some (getV (getL t), s) := evF_ext (H := hTGet) rfl rfl
theorem b55 (k : Nat) {v : AV} {l : List Tp} (h : IsTp v l) (hl : l.length ≤ 100) (id : Int) (s : St) : evB (k + 1) 55 [v, .int .i64 id] s = some (findV (findT id l), s) := evF_ext (H := hFind) rfl (by
  simp only [List.map_cons, List.map_nil, hFind, toTp_is h, dry1_int]; rw [if_pos hl])
theorem b54 (k : Nat) {v w : AV} {l : List Tp} (h : IsTp v l) (g : IsTp w l) (hl : l.length ≤ 100) (s : St) : evB (k + 1) 54 [v, w] s = some (.bool true, s) := evF_ext (H := hEqT) rfl (by
  simp only [List.map_cons, List.map_nil, hEqT, toTp_is h, toTp_is g]; rw [if_pos ⟨trivial, hl⟩])
theorem b56 (k : Nat) (t : List UInt8) (s : St) : evB (k + 1) 56 [.str t] s = some (.bool true, s) := evF_ext (H := hBack) rfl rfl
end Go.Proofs.YthcblggiojpmcaaDoor
