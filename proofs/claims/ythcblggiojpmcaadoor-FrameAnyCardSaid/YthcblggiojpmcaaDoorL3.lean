/- Layer 4 with more of its functions as what they answer. No conditions. -/
import Derived.Test.YthcblggiojpmcaaDoorL2
import Derived.Test.YthcblggiojpmcaaDoorPlainT
set_option linter.unusedSimpArgs false
set_option linter.unusedVariables false
set_option maxRecDepth 100000
namespace Go.Proofs.YthcblggiojpmcaaDoor
open Go Go.Ab
def lst2 (f : Nat) : Option (List AV → St → Option AV) :=
  if f = 35 then some hPut else if f = 46 then some hFPlain else if f = 32 then some hPlain else if f = 41 then some hRMay else if f = 45 then some hEq else if f = 43 then some hFGet
  else if f = 44 then some hRPut else none
noncomputable def ext2 := extWith ext1 lst2
theorem ext2_ok : ∀ w0, ExtOk Tryd.prog tabGl w0 ext2 := extOk_add (tableOf_ok _) mixed tab_flat ext1_ok lst2 (by
  intro f h hf
  unfold lst2 at hf
  rcases some_of hf with ⟨rfl, rfl⟩ | hf
  · exact ⟨by rw [tab35]; rfl, 1000, put_pure⟩
  rcases some_of hf with ⟨rfl, rfl⟩ | hf
  · exact ⟨by rw [tab46]; rfl, 1000, fplain_pure⟩
  rcases some_of hf with ⟨rfl, rfl⟩ | hf
  · exact ⟨by rw [tab32]; rfl, 1000, plain_pure⟩
  rcases some_of hf with ⟨rfl, rfl⟩ | hf
  · exact ⟨by rw [tab41]; rfl, 1000, rmay_pure⟩
  rcases some_of hf with ⟨rfl, rfl⟩ | hf
  · exact ⟨by rw [tab45]; rfl, 1000, eq_pure⟩
  rcases some_of hf with ⟨rfl, rfl⟩ | hf
  · exact ⟨by rw [tab43]; rfl, 1000, fget_pure⟩
  rcases some_of hf with ⟨rfl, rfl⟩ | hf
  · exact ⟨by rw [tab44]; rfl, 1000, rput_pure⟩
  cases hf)
noncomputable def evL2 : Nat → Calls' := evF tabGl (tableOf Tryd.prog) ext2
theorem evL2_ok (w0 : World) (k : Nat) : CallOk Tryd.prog tabGl w0 (evL2 k) := evF_sound (tableOf_ok _) (ext2_ok w0) mixed k
theorem evL2_in {k f : Nat} {m : MFun} (hx : ext2 f = none) (hF : tableOf Tryd.prog f = some m) (args : List AV) (s : St) :
    evL2 (k + 1) f args s = outR m.res (evC tabGl (evL2 k) k m.body (env0 m.ntmps args) s) := evF_in hx hF args s
/-! Calls. -/
theorem d20 (k : Nat) (s : St) : evL2 (k + 1) 20 [] s = some (.bool true, s) := evF_ext (H := hTrue) rfl rfl
theorem d33 (k : Nat) (p : Pn) (s : St) : evL2 (k + 1) 33 [.agg p.cells] s = some (p.ctl.av, s) := evF_ext (H := hAny1) rfl rfl
theorem d36 (k : Nat) (c : Ct) (s : St) : evL2 (k + 1) 36 [c.av] s = some (.bool c.may, s) := evF_ext (H := hMay) rfl (by simp only [List.map_cons, List.map_nil, dry_ct, hMay, toCt_av, Option.map_some])
theorem d38 (k : Nat) (c : Ct) (s : St) : evL2 (k + 1) 38 [c.av] s = some (.bool c.pf, s) := evF_ext (H := hPf) rfl (by simp only [List.map_cons, List.map_nil, dry_ct, hPf, toCt_av, Option.map_some])
theorem d35 (k : Nat) (c : Ct) (s : St) : evL2 (k + 1) 35 [c.av] s = some (.tup [.int .u8 (if c.may = true then c.num else 0), .bool c.may], s) := evF_ext (H := hPut) rfl (by simp only [List.map_cons, List.map_nil, dry_ct, hPut, toCt_av, Option.map_some])
theorem d47 (k : Nat) (f : Fr) (s : St) : evL2 (k + 1) 47 [.agg f.cells] s = some (.bool f.may, s) := evF_ext (H := hFMay) rfl (by simp only [List.map_cons, List.map_nil, dry1_agg, hFMay, toFr, Fr.cells, toCt_av, Option.map_some])
theorem d46 (k : Nat) (f : Fr) (s : St) : evL2 (k + 1) 46 [.agg f.cells] s = some (.agg f.pn.cells, s) := evF_ext (H := hFPlain) rfl (by simp only [List.map_cons, List.map_nil, dry1_agg, hFPlain, toFr, Fr.cells, toCt_av, Option.map_some])
theorem d45 (k : Nat) (f g : Fr) (s : St) : evL2 (k + 1) 45 [.agg f.cells, .agg g.cells] s = some (.bool (f.eq g), s) := evF_ext (H := hEq) rfl (by simp only [List.map_cons, List.map_nil, dry1_agg, hEq, toFr, Fr.cells, toCt_av, Option.map_some])
theorem d34 (k : Nat) (p : Pn) (s : St) : evL2 (k + 1) 34 [.agg p.cells] s = some (if p.okc = true then .tup [.int .u8 p.ctl.num, .bool true] else .tup [.int .u8 0, .bool false], s) := evF_ext (H := hRCtl) rfl rfl
theorem d32 (k : Nat) (p : Pn) (s : St) : evL2 (k + 1) 32 [.agg p.cells] s = some (.agg ({ p with body := p.body.take 70 } : Pn).cells, s) := evF_ext (H := hPlain) rfl rfl
theorem d41 (k : Nat) (p : Pn) (s : St) : evL2 (k + 1) 41 [.agg p.cells] s = some (.bool p.may, s) := evF_ext (H := hRMay) rfl rfl
theorem d44 (k : Nat) (p : Pn) (hp : p.may = true) (s : St) : evL2 (k + 1) 44 [.agg p.cells] s = some (.sl p.bytes (3 + p.body.length) none, s) := evF_ext (H := hRPut) rfl (by
  show (if p.may = true then some (AV.sl p.bytes (3 + p.body.length) none) else none) = _
  rw [if_pos hp])
theorem d21 (k : Nat) (l : List UInt8) (n : Nat) (s : St) : evL2 (k + 1) 21 [.str l, .int .i64 (n : Int)] s = some (.str (l.take n), s) := evF_ext (H := hText) rfl (by simp only [List.map_cons, List.map_nil, dry1_str, dry1_int, hText]; rw [if_pos (by omega)]; simp)
theorem d37 (k : Nat) (n : Nat) (h : n < 256) (s : St) : evL2 (k + 1) 37 [.int .u8 (n : Int)] s = some (.tup [(gct n).av, .bool (gct n).is], s) := evF_ext (H := hGet) rfl (by simp only [List.map_cons, List.map_nil, dry1_int, hGet]; rw [if_pos ⟨by omega, by omega⟩]; simp)
theorem d43 (k : Nat) (bs : List UInt8) (n : Nat) (tk : Option (Nat × Nat × Nat)) (h : bs.length = n) (s : St) : evL2 (k + 1) 43 [.sl (bytesAV bs) n tk] s = some (match gfr bs with
    | some f => .tup [.agg f.cells, .bool true]
    | none => .tup [.agg Fr.zero.cells, .bool false], s) := by
  subst h
  exact evF_ext (H := hFGet) rfl (by simp only [List.map_cons, List.map_nil, dry1_sl, hFGet, toBs_mk, Option.map_some]; rfl)
theorem d43n (k : Nat) (s : St) : evL2 (k + 1) 43 [.nils] s = some (.tup [.agg Fr.zero.cells, .bool false], s) := evF_ext (H := hFGet) rfl rfl
/-! frame.Put, frame.Of. -/
def Fr.bytes (f : Fr) : List AV := .int .u8 (f.seat * 2 + (if f.cmd = true then 1 else 0)) :: .int .u8 f.count :: .int .u8 f.ctl.num :: bytesAV f.body
def hFPut : List AV → St → Option AV
  | [v], _ => match toFr v with
    | some f => some (if f.may = true then .tup [.sl f.bytes (3 + f.body.length) none, .bool true] else .tup [.nils, .bool false])
    | none => if (isFo v && Ab.flat v) = true then some (.tup [.nils, .bool false]) else none
  | _, _ => none
theorem d47f (k : Nat) (v : AV) (h : isFo v = true) (s : St) : evL2 (k + 1) 47 [v] s = some (.bool false, s) := by
  refine evF_ext (H := hFMay) rfl ?_
  obtain ⟨seat, count, cmd, t, w, body, rfl, hw⟩ := isFo_of h
  have hn := toFr_fo h
  simp only [List.map_cons, List.map_nil, dry1_agg, hFMay, hn]
  rw [if_pos h]
theorem fput_foreign (seat count : Int) (cmd : Bool) (t : Nat) (w : AV) (body : List UInt8) (h : foreign (.iface t w) = true) (s : St) : valR (evL2 1000 42 [.agg [.int .i64 seat, .int .i64 count, .bool cmd, .iface t w, .str body]] (s.pl [])) = some (.tup [.nils, .bool false]) := by
  rw [show (1000 : Nat) = 999 + 1 from rfl, evL2_in rfl tab42]
  have h47 := d47f 998 (.agg [.int .i64 seat, .int .i64 count, .bool cmd, .iface t w, .str body]) h
  simp only [M42, h47, qES0, qES1, qES2, env0, List.length_cons, List.length_nil, Nat.reduceAdd, Nat.reduceSub, List.replicate, List.cons_append, List.nil_append, opd, Env.put, Env.at, List.set_cons_zero, List.set_cons_succ, List.getD_cons_zero, List.getD_cons_succ, freezeL, resVs, oneOr, Option.map_some, Option.map_none, List.map_cons, List.map_nil, if_true, if_false, Bool.not_true, Bool.not_false, Bool.false_eq_true, reduceIte, decide_true, decide_false, Int.reduceLT, Int.reduceLE, Int.reduceGT, Int.reduceGE, Int.reduceEq, Int.reduceBEq, Int.reduceBNe, load_ptr, ldV_some, cellAt_cells, List.getElem?_cons_zero, List.getElem?_cons_succ, store_ptr, stO_some, setAt_0, setAt_1, setAt_2, setAt_3, setAt_4, setAt_5, setAt_6, setAt_7, setAt_8, setAt_9, setAt_10, setAt_11, setAt_12, cells_int, cells_bool, cells_str, cells_nils, cells_nilp, cells_ptr, cells_sl, cells_u8, cells_u16, cells_agg, get_upd_is, Option.isSome_some, upd_upd, ev1_nchkV, ev1_faV, nchkV_ptr, faV_ptr, ev1_extV, extV_tup, eqptr_nil, eqptr_ptr, Nat.zero_add, Nat.add_zero, qPL0, qPL1, qPL2, qPL3, qPL4, qPL5, beq_self_eq_true]
theorem fput_val (f : Fr) (s : St) : valR (evL2 1000 42 [.agg f.cells] (s.pl [])) = some (if f.may = true then .tup [.sl f.bytes (3 + f.body.length) none, .bool true] else .tup [.nils, .bool false]) := by
  rw [show (1000 : Nat) = 999 + 1 from rfl, evL2_in rfl tab42]
  have h47 := d47 998 f
  have h35 := d35 998 f.ctl
  have fz := fun s => f.ctl.freeze 0 s
  cases hm : f.may with
  | false =>
    rw [hm] at h47
    obtain ⟨seat, count, cmd, c, body⟩ := f
    simp only [Fr.cells] at h47 ⊢
    simp only [M42, h47, qES0, qES1, qES2, env0, List.length_cons, List.length_nil, Nat.reduceAdd, Nat.reduceSub, List.replicate, List.cons_append, List.nil_append, opd, Env.put, Env.at, List.set_cons_zero, List.set_cons_succ, List.getD_cons_zero, List.getD_cons_succ, freezeL, resVs, oneOr, Option.map_some, Option.map_none, List.map_cons, List.map_nil, if_true, if_false, Bool.not_true, Bool.not_false, Bool.false_eq_true, reduceIte, decide_true, decide_false, Int.reduceLT, Int.reduceLE, Int.reduceGT, Int.reduceGE, Int.reduceEq, Int.reduceBEq, Int.reduceBNe, load_ptr, ldV_some, cellAt_cells, List.getElem?_cons_zero, List.getElem?_cons_succ, store_ptr, stO_some, setAt_0, setAt_1, setAt_2, setAt_3, setAt_4, setAt_5, setAt_6, setAt_7, setAt_8, setAt_9, setAt_10, setAt_11, setAt_12, cells_int, cells_bool, cells_str, cells_nils, cells_nilp, cells_ptr, cells_sl, cells_u8, cells_u16, cells_agg, get_upd_is, Option.isSome_some, upd_upd, ev1_nchkV, ev1_faV, nchkV_ptr, faV_ptr, ev1_extV, extV_tup, eqptr_nil, eqptr_ptr, Nat.zero_add, Nat.add_zero, qPL0, qPL1, qPL2, qPL3, qPL4, qPL5, beq_self_eq_true]
  | true =>
    rw [hm] at h47
    have hc := fr_may_ctl hm
    obtain ⟨seat, count, cmd, c, body⟩ := f
    have hm' := hm
    unfold Fr.may at hm'
    split at hm'
    · cases hm'
    · rename_i hb
      simp only [not_or] at hb
      simp only [Bool.and_eq_true, decide_eq_true_eq] at hm'
      simp only [Fr.cells] at h47 h35 fz hc ⊢
      simp only [hc, if_true] at h35
      have w1 : IntKind.i64.wrap (seat * 2) = seat * 2 := wrapI _ (by omega) (by omega)
      have w2 : IntKind.i64.wrap (seat * 2 + 1) = seat * 2 + 1 := wrapI _ (by omega) (by omega)
      have w3 := u8_wrap (seat * 2) (by omega) (by omega)
      have w4 := u8_wrap (seat * 2 + 1) (by omega) (by omega)
      have w5 := u8_wrap count (by omega) (by omega)
      have hap := fun (s : St) (x y z : AV) (t v : Nat) => appT_3 s x y z body t v (by omega)
      cases cmd <;> simp only [M42, h47, h35, fz, w1, w2, w3, w4, w5, hap, appV_str, fill3a, fill3b, fill3d, qES0, qES1, qES2, env0, List.length_cons, List.length_nil, Nat.reduceAdd, Nat.reduceSub, List.replicate, List.cons_append, List.nil_append, opd, Env.put, Env.at, List.set_cons_zero, List.set_cons_succ, List.getD_cons_zero, List.getD_cons_succ, freezeL, resVs, oneOr, Option.map_some, Option.map_none, List.map_cons, List.map_nil, if_true, if_false, Bool.not_true, Bool.not_false, Bool.false_eq_true, reduceIte, decide_true, decide_false, Int.reduceLT, Int.reduceLE, Int.reduceGT, Int.reduceGE, Int.reduceEq, Int.reduceBEq, Int.reduceBNe, load_ptr, ldV_some, cellAt_cells, List.getElem?_cons_zero, List.getElem?_cons_succ, store_ptr, stO_some, setAt_0, setAt_1, setAt_2, setAt_3, setAt_4, setAt_5, setAt_6, setAt_7, setAt_8, setAt_9, setAt_10, setAt_11, setAt_12, cells_int, cells_bool, cells_str, cells_nils, cells_nilp, cells_ptr, cells_sl, cells_u8, cells_u16, cells_agg, get_upd_is, Option.isSome_some, upd_upd, ev1_nchkV, ev1_faV, nchkV_ptr, faV_ptr, ev1_extV, extV_tup, eqptr_nil, eqptr_ptr, Nat.zero_add, Nat.add_zero, qPL0, qPL1, qPL2, qPL3, qPL4, qPL5, beq_self_eq_true, Fr.bytes, Int.add_zero]
theorem fput_pure : PureOk (evL2 1000) 42 hFPut := pureOk_of (by
  intro args s v h
  unfold hFPut at h
  split at h
  · split at h
    · rename_i f hf
      cases h
      rw [toFr_of hf]
      refine ⟨?_, by simp [flatL, f.flat], fput_val f St.nil⟩
      split
      · simp [Ab.flat, Ab.flatL, Fr.bytes, bytes_flat]
      · rfl
    · split at h
      · rename_i hf
        cases h
        simp only [Bool.and_eq_true] at hf
        obtain ⟨seat, count, cmd, t, w, body, rfl, hw⟩ := isFo_of hf.1
        exact ⟨rfl, by simp [flatL, hf.2], fput_foreign seat count cmd t w body hw St.nil⟩
      · cases h
  · cases h)
/-- What a plain frame is. -/
def Pn.ofr (p : Pn) : AV := if p.may = true then .tup [.agg p.fr.cells, .bool true] else .tup [.agg Fr.zero.cells, .bool false]
def hOf : List AV → St → Option AV
  | [v], _ => (toPn v).map Pn.ofr
  | _, _ => none
theorem eq9D (p q : Pn) : eqAV (.flat (.many [.i, .i, .b, .i, .i, .i, .i, .b, .s])) (.agg p.cells) (.agg q.cells) = some (decide (p = q)) := by
  obtain ⟨a, b, c, d, e, f, g, h, l⟩ := p
  obtain ⟨a', b', c', d', e', f', g', h', l'⟩ := q
  show eqScL _ (Pn.cells _) (Pn.cells _) = _
  simp only [Pn.cells]
  rw [eqScL_i, eqScL_i]
  by_cases h1 : a = a'
  rotate_left
  · simp [h1]
  by_cases h2 : b = b'
  rotate_left
  · simp [h2]
  by_cases h3 : c = c'
  rotate_left
  · have : (c == c') = false := by cases c <;> cases c' <;> simp at h3 ⊢
    simp [eqScL, eqSc, this, h3]
  subst h1 h2 h3
  have e3 : ∀ xs ys, eqScL [.b, .i, .i, .i, .i, .b, .s] (.bool c :: xs) (.bool c :: ys) = eqScL [.i, .i, .i, .i, .b, .s] xs ys := fun xs ys => by simp [eqScL, eqSc]
  rw [if_pos rfl, if_pos rfl, e3, eqScL_i, eqScL_i, eqScL_i, eqScL_i]
  by_cases h4 : d = d'
  rotate_left
  · simp [h4]
  by_cases h5 : e = e'
  rotate_left
  · simp [h5]
  by_cases h6 : f = f'
  rotate_left
  · simp [h6]
  by_cases h7 : g = g'
  rotate_left
  · simp [h7]
  subst h4 h5 h6 h7
  by_cases h8 : h = h'
  rotate_left
  · have : (h == h') = false := by cases h <;> cases h' <;> simp at h8 ⊢
    simp [eqScL, eqSc, this, h8]
  subst h8
  by_cases h9 : l = l'
  · subst h9; simp [eqScL, eqSc]
  · have : (l == l') = false := beq_eq_false_iff_ne.2 h9
    simp [eqScL, eqSc, this, h9]
theorem pn_exact (p : Pn) (h : p.fr.may = true) : decide (p.fr.pn = p) = p.exact := by
  have hc := fr_may_ctl h
  simp only [Fr.pn, h, if_true]
  obtain ⟨seat, count, cmd, kind, sort, nr, ns, pf, body⟩ := p
  simp only [Pn.fr, Pn.ctl, Pn.exact] at hc ⊢
  unfold any1 at hc ⊢
  by_cases h1 : kind = 1
  · subst h1; simp [Ct.kind, Ct.sort, Ct.nr, Ct.ns, Ct.pf, eq_comm]
  · by_cases h2 : kind = 2
    · subst h2; simp [Ct.kind, Ct.sort, Ct.nr, Ct.ns, Ct.pf, eq_comm]
    · by_cases h3 : kind = 3
      · subst h3; simp [Ct.kind, Ct.sort, Ct.nr, Ct.ns, Ct.pf, eq_comm]
      · rw [if_neg h1, if_neg h2, if_neg h3] at hc; cases hc
theorem fr_n0 : True := trivial
theorem fr_n (seat count : Int) (cmd : Bool) (body : List UInt8) : (Fr.mk seat count cmd .n body).may = false := by
  rw [Bool.eq_false_iff]; intro h; have := fr_may_ctl h; cases this
theorem of_val (p : Pn) (s : St) : valR (evL2 1000 40 [.agg p.cells] (s.pl [])) = some p.ofr := by
  rw [show (1000 : Nat) = 999 + 1 from rfl, evL2_in rfl tab40]
  have h47 := d47 998 p.fr
  have h46 := d46 998 p.fr
  have he := fun (h : p.fr.may = true) => (eq9D p.fr.pn p).trans (congrArg some (pn_exact p h))
  have q21 : ((2 : Int) == 1) = false := rfl
  have q31 : ((3 : Int) == 1) = false := rfl
  have q32 : ((3 : Int) == 2) = false := rfl
  have hofr : ∀ x y, p.fr.may = x → p.exact = y → p.ofr = if (x && y) = true then .tup [.agg p.fr.cells, .bool true] else .tup [.agg Fr.zero.cells, .bool false] := by
    intro x y hx hy
    have : p.may = (x && y) := by rw [Pn.may, hx, hy]
    rw [Pn.ofr, this]
  cases hm : p.fr.may with
  | false =>
    rw [hofr false p.exact hm rfl]
    rw [hm] at h47
    obtain ⟨seat, count, cmd, kind, sort, nr, ns, pf, body⟩ := p
    simp only [Pn.fr, Pn.ctl, Fr.cells] at h47
    simp only [Pn.cells, Bool.false_and, if_false, Bool.false_eq_true, Fr.zero, Fr.cells, av_n]
    by_cases h1 : kind = 1
    · subst h1
      simp only [any1, if_true, Ct.av] at h47
      simp only [M40, h47, qES0, qES1, qES2, env0, List.length_cons, List.length_nil, Nat.reduceAdd, Nat.reduceSub, List.replicate, List.cons_append, List.nil_append, opd, Env.put, Env.at, List.set_cons_zero, List.set_cons_succ, List.getD_cons_zero, List.getD_cons_succ, freezeL, resVs, oneOr, Option.map_some, Option.map_none, List.map_cons, List.map_nil, if_true, if_false, Bool.not_true, Bool.not_false, Bool.false_eq_true, reduceIte, decide_true, decide_false, Int.reduceLT, Int.reduceLE, Int.reduceGT, Int.reduceGE, Int.reduceEq, Int.reduceBEq, Int.reduceBNe, load_ptr, ldV_some, cellAt_cells, List.getElem?_cons_zero, List.getElem?_cons_succ, store_ptr, stO_some, setAt_0, setAt_1, setAt_2, setAt_3, setAt_4, setAt_5, setAt_6, setAt_7, setAt_8, setAt_9, setAt_10, setAt_11, setAt_12, cells_int, cells_bool, cells_str, cells_nils, cells_nilp, cells_ptr, cells_sl, cells_u8, cells_u16, cells_agg, get_upd_is, Option.isSome_some, upd_upd, ev1_nchkV, ev1_faV, nchkV_ptr, faV_ptr, ev1_extV, extV_tup, eqptr_nil, eqptr_ptr, Nat.zero_add, Nat.add_zero, qPL0, qPL1, qPL2, qPL3, qPL4, qPL5, beq_self_eq_true, qED0, qED1, placeR]
      rw [drawR_ok]; case h => simp (config := { decide := true }) [calm, calmPair, calmTwo, List.range, List.range.loop, sameO_refl, plg0, plg1, plg2, plg3, plg4, plg5, plg6, plg7, plg8, plg9, plg10, plg11, plg12, plg13]
      simp only [h47, qES0, qES1, qES2, env0, List.length_cons, List.length_nil, Nat.reduceAdd, Nat.reduceSub, List.replicate, List.cons_append, List.nil_append, opd, Env.put, Env.at, List.set_cons_zero, List.set_cons_succ, List.getD_cons_zero, List.getD_cons_succ, freezeL, resVs, oneOr, Option.map_some, Option.map_none, List.map_cons, List.map_nil, if_true, if_false, Bool.not_true, Bool.not_false, Bool.false_eq_true, reduceIte, decide_true, decide_false, Int.reduceLT, Int.reduceLE, Int.reduceGT, Int.reduceGE, Int.reduceEq, Int.reduceBEq, Int.reduceBNe, load_ptr, ldV_some, cellAt_cells, List.getElem?_cons_zero, List.getElem?_cons_succ, store_ptr, stO_some, setAt_0, setAt_1, setAt_2, setAt_3, setAt_4, setAt_5, setAt_6, setAt_7, setAt_8, setAt_9, setAt_10, setAt_11, setAt_12, cells_int, cells_bool, cells_str, cells_nils, cells_nilp, cells_ptr, cells_sl, cells_u8, cells_u16, cells_agg, get_upd_is, Option.isSome_some, upd_upd, ev1_nchkV, ev1_faV, nchkV_ptr, faV_ptr, ev1_extV, extV_tup, eqptr_nil, eqptr_ptr, Nat.zero_add, Nat.add_zero, qPL0, qPL1, qPL2, qPL3, qPL4, qPL5, beq_self_eq_true, qED0, qED1, placeR]
    by_cases h2 : kind = 2
    · subst h2
      simp only [any1, if_true, if_false, Ct.av, reduceCtorEq, Int.reduceEq] at h47
      simp only [M40, h47, q21, qES0, qES1, qES2, env0, List.length_cons, List.length_nil, Nat.reduceAdd, Nat.reduceSub, List.replicate, List.cons_append, List.nil_append, opd, Env.put, Env.at, List.set_cons_zero, List.set_cons_succ, List.getD_cons_zero, List.getD_cons_succ, freezeL, resVs, oneOr, Option.map_some, Option.map_none, List.map_cons, List.map_nil, if_true, if_false, Bool.not_true, Bool.not_false, Bool.false_eq_true, reduceIte, decide_true, decide_false, Int.reduceLT, Int.reduceLE, Int.reduceGT, Int.reduceGE, Int.reduceEq, Int.reduceBEq, Int.reduceBNe, load_ptr, ldV_some, cellAt_cells, List.getElem?_cons_zero, List.getElem?_cons_succ, store_ptr, stO_some, setAt_0, setAt_1, setAt_2, setAt_3, setAt_4, setAt_5, setAt_6, setAt_7, setAt_8, setAt_9, setAt_10, setAt_11, setAt_12, cells_int, cells_bool, cells_str, cells_nils, cells_nilp, cells_ptr, cells_sl, cells_u8, cells_u16, cells_agg, get_upd_is, Option.isSome_some, upd_upd, ev1_nchkV, ev1_faV, nchkV_ptr, faV_ptr, ev1_extV, extV_tup, eqptr_nil, eqptr_ptr, Nat.zero_add, Nat.add_zero, qPL0, qPL1, qPL2, qPL3, qPL4, qPL5, beq_self_eq_true, qED0, qED1, placeR]
      rw [drawR_ok]; case h => simp (config := { decide := true }) [calm, calmPair, calmTwo, List.range, List.range.loop, sameO_refl, plg0, plg1, plg2, plg3, plg4, plg5, plg6, plg7, plg8, plg9, plg10, plg11, plg12, plg13]
      simp only [h47, qES0, qES1, qES2, env0, List.length_cons, List.length_nil, Nat.reduceAdd, Nat.reduceSub, List.replicate, List.cons_append, List.nil_append, opd, Env.put, Env.at, List.set_cons_zero, List.set_cons_succ, List.getD_cons_zero, List.getD_cons_succ, freezeL, resVs, oneOr, Option.map_some, Option.map_none, List.map_cons, List.map_nil, if_true, if_false, Bool.not_true, Bool.not_false, Bool.false_eq_true, reduceIte, decide_true, decide_false, Int.reduceLT, Int.reduceLE, Int.reduceGT, Int.reduceGE, Int.reduceEq, Int.reduceBEq, Int.reduceBNe, load_ptr, ldV_some, cellAt_cells, List.getElem?_cons_zero, List.getElem?_cons_succ, store_ptr, stO_some, setAt_0, setAt_1, setAt_2, setAt_3, setAt_4, setAt_5, setAt_6, setAt_7, setAt_8, setAt_9, setAt_10, setAt_11, setAt_12, cells_int, cells_bool, cells_str, cells_nils, cells_nilp, cells_ptr, cells_sl, cells_u8, cells_u16, cells_agg, get_upd_is, Option.isSome_some, upd_upd, ev1_nchkV, ev1_faV, nchkV_ptr, faV_ptr, ev1_extV, extV_tup, eqptr_nil, eqptr_ptr, Nat.zero_add, Nat.add_zero, qPL0, qPL1, qPL2, qPL3, qPL4, qPL5, beq_self_eq_true, qED0, qED1, placeR]
    by_cases h3 : kind = 3
    · subst h3
      simp only [any1, if_true, if_false, Ct.av, reduceCtorEq, Int.reduceEq] at h47
      simp only [M40, h47, q31, q32, qES0, qES1, qES2, env0, List.length_cons, List.length_nil, Nat.reduceAdd, Nat.reduceSub, List.replicate, List.cons_append, List.nil_append, opd, Env.put, Env.at, List.set_cons_zero, List.set_cons_succ, List.getD_cons_zero, List.getD_cons_succ, freezeL, resVs, oneOr, Option.map_some, Option.map_none, List.map_cons, List.map_nil, if_true, if_false, Bool.not_true, Bool.not_false, Bool.false_eq_true, reduceIte, decide_true, decide_false, Int.reduceLT, Int.reduceLE, Int.reduceGT, Int.reduceGE, Int.reduceEq, Int.reduceBEq, Int.reduceBNe, load_ptr, ldV_some, cellAt_cells, List.getElem?_cons_zero, List.getElem?_cons_succ, store_ptr, stO_some, setAt_0, setAt_1, setAt_2, setAt_3, setAt_4, setAt_5, setAt_6, setAt_7, setAt_8, setAt_9, setAt_10, setAt_11, setAt_12, cells_int, cells_bool, cells_str, cells_nils, cells_nilp, cells_ptr, cells_sl, cells_u8, cells_u16, cells_agg, get_upd_is, Option.isSome_some, upd_upd, ev1_nchkV, ev1_faV, nchkV_ptr, faV_ptr, ev1_extV, extV_tup, eqptr_nil, eqptr_ptr, Nat.zero_add, Nat.add_zero, qPL0, qPL1, qPL2, qPL3, qPL4, qPL5, beq_self_eq_true, qED0, qED1, placeR]
      rw [drawR_ok]; case h => simp (config := { decide := true }) [calm, calmPair, calmTwo, List.range, List.range.loop, sameO_refl, plg0, plg1, plg2, plg3, plg4, plg5, plg6, plg7, plg8, plg9, plg10, plg11, plg12, plg13]
      simp only [h47, qES0, qES1, qES2, env0, List.length_cons, List.length_nil, Nat.reduceAdd, Nat.reduceSub, List.replicate, List.cons_append, List.nil_append, opd, Env.put, Env.at, List.set_cons_zero, List.set_cons_succ, List.getD_cons_zero, List.getD_cons_succ, freezeL, resVs, oneOr, Option.map_some, Option.map_none, List.map_cons, List.map_nil, if_true, if_false, Bool.not_true, Bool.not_false, Bool.false_eq_true, reduceIte, decide_true, decide_false, Int.reduceLT, Int.reduceLE, Int.reduceGT, Int.reduceGE, Int.reduceEq, Int.reduceBEq, Int.reduceBNe, load_ptr, ldV_some, cellAt_cells, List.getElem?_cons_zero, List.getElem?_cons_succ, store_ptr, stO_some, setAt_0, setAt_1, setAt_2, setAt_3, setAt_4, setAt_5, setAt_6, setAt_7, setAt_8, setAt_9, setAt_10, setAt_11, setAt_12, cells_int, cells_bool, cells_str, cells_nils, cells_nilp, cells_ptr, cells_sl, cells_u8, cells_u16, cells_agg, get_upd_is, Option.isSome_some, upd_upd, ev1_nchkV, ev1_faV, nchkV_ptr, faV_ptr, ev1_extV, extV_tup, eqptr_nil, eqptr_ptr, Nat.zero_add, Nat.add_zero, qPL0, qPL1, qPL2, qPL3, qPL4, qPL5, beq_self_eq_true, qED0, qED1, placeR]
    have g1 : (kind == 1) = false := beq_eq_false_iff_ne.2 h1
    have g2 : (kind == 2) = false := beq_eq_false_iff_ne.2 h2
    have g3 : (kind == 3) = false := beq_eq_false_iff_ne.2 h3
    simp only [any1, if_neg h1, if_neg h2, if_neg h3, Ct.av] at h47
    simp only [M40, h47, g1, g2, g3, qES0, qES1, qES2, env0, List.length_cons, List.length_nil, Nat.reduceAdd, Nat.reduceSub, List.replicate, List.cons_append, List.nil_append, opd, Env.put, Env.at, List.set_cons_zero, List.set_cons_succ, List.getD_cons_zero, List.getD_cons_succ, freezeL, resVs, oneOr, Option.map_some, Option.map_none, List.map_cons, List.map_nil, if_true, if_false, Bool.not_true, Bool.not_false, Bool.false_eq_true, reduceIte, decide_true, decide_false, Int.reduceLT, Int.reduceLE, Int.reduceGT, Int.reduceGE, Int.reduceEq, Int.reduceBEq, Int.reduceBNe, load_ptr, ldV_some, cellAt_cells, List.getElem?_cons_zero, List.getElem?_cons_succ, store_ptr, stO_some, setAt_0, setAt_1, setAt_2, setAt_3, setAt_4, setAt_5, setAt_6, setAt_7, setAt_8, setAt_9, setAt_10, setAt_11, setAt_12, cells_int, cells_bool, cells_str, cells_nils, cells_nilp, cells_ptr, cells_sl, cells_u8, cells_u16, cells_agg, get_upd_is, Option.isSome_some, upd_upd, ev1_nchkV, ev1_faV, nchkV_ptr, faV_ptr, ev1_extV, extV_tup, eqptr_nil, eqptr_ptr, Nat.zero_add, Nat.add_zero, qPL0, qPL1, qPL2, qPL3, qPL4, qPL5, beq_self_eq_true, qED0, qED1, placeR]
    rw [drawR_ok]; case h => simp (config := { decide := true }) [calm, calmPair, calmTwo, List.range, List.range.loop, sameO_refl, plg0, plg1, plg2, plg3, plg4, plg5, plg6, plg7, plg8, plg9, plg10, plg11, plg12, plg13]
    simp only [h47, g1, g2, g3, qES0, qES1, qES2, env0, List.length_cons, List.length_nil, Nat.reduceAdd, Nat.reduceSub, List.replicate, List.cons_append, List.nil_append, opd, Env.put, Env.at, List.set_cons_zero, List.set_cons_succ, List.getD_cons_zero, List.getD_cons_succ, freezeL, resVs, oneOr, Option.map_some, Option.map_none, List.map_cons, List.map_nil, if_true, if_false, Bool.not_true, Bool.not_false, Bool.false_eq_true, reduceIte, decide_true, decide_false, Int.reduceLT, Int.reduceLE, Int.reduceGT, Int.reduceGE, Int.reduceEq, Int.reduceBEq, Int.reduceBNe, load_ptr, ldV_some, cellAt_cells, List.getElem?_cons_zero, List.getElem?_cons_succ, store_ptr, stO_some, setAt_0, setAt_1, setAt_2, setAt_3, setAt_4, setAt_5, setAt_6, setAt_7, setAt_8, setAt_9, setAt_10, setAt_11, setAt_12, cells_int, cells_bool, cells_str, cells_nils, cells_nilp, cells_ptr, cells_sl, cells_u8, cells_u16, cells_agg, get_upd_is, Option.isSome_some, upd_upd, ev1_nchkV, ev1_faV, nchkV_ptr, faV_ptr, ev1_extV, extV_tup, eqptr_nil, eqptr_ptr, Nat.zero_add, Nat.add_zero, qPL0, qPL1, qPL2, qPL3, qPL4, qPL5, beq_self_eq_true, qED0, qED1, placeR]
  | true =>
    rw [hm] at h47
    have he' := he hm
    have hofr' := fun y => hofr true y hm
    generalize p.fr.pn = q at h46 he'
    obtain ⟨seat, count, cmd, kind, sort, nr, ns, pf, body⟩ := p
    have hcm := fr_may_ctl hm
    simp only [Pn.fr, Pn.ctl, Fr.cells] at h47 hcm
    simp only [Pn.fr, Pn.ctl, Fr.cells, Pn.cells] at h46
    simp only [Pn.cells] at he' ⊢
    cases hx : Pn.exact ⟨seat, count, cmd, kind, sort, nr, ns, pf, body⟩ with
    | false =>
      rw [hofr' false hx]
      rw [hx] at he'
      simp only [Bool.true_and, Fr.zero, Fr.cells, av_n, if_false, Bool.false_eq_true]
      by_cases h1 : kind = 1
      · subst h1
        simp only [any1, if_true, Ct.av] at h47 h46
        simp only [M40, h47, h46, he', ev1_eqv, qES0, qES1, qES2, env0, List.length_cons, List.length_nil, Nat.reduceAdd, Nat.reduceSub, List.replicate, List.cons_append, List.nil_append, opd, Env.put, Env.at, List.set_cons_zero, List.set_cons_succ, List.getD_cons_zero, List.getD_cons_succ, freezeL, resVs, oneOr, Option.map_some, Option.map_none, List.map_cons, List.map_nil, if_true, if_false, Bool.not_true, Bool.not_false, Bool.false_eq_true, reduceIte, decide_true, decide_false, Int.reduceLT, Int.reduceLE, Int.reduceGT, Int.reduceGE, Int.reduceEq, Int.reduceBEq, Int.reduceBNe, load_ptr, ldV_some, cellAt_cells, List.getElem?_cons_zero, List.getElem?_cons_succ, store_ptr, stO_some, setAt_0, setAt_1, setAt_2, setAt_3, setAt_4, setAt_5, setAt_6, setAt_7, setAt_8, setAt_9, setAt_10, setAt_11, setAt_12, cells_int, cells_bool, cells_str, cells_nils, cells_nilp, cells_ptr, cells_sl, cells_u8, cells_u16, cells_agg, get_upd_is, Option.isSome_some, upd_upd, ev1_nchkV, ev1_faV, nchkV_ptr, faV_ptr, ev1_extV, extV_tup, eqptr_nil, eqptr_ptr, Nat.zero_add, Nat.add_zero, qPL0, qPL1, qPL2, qPL3, qPL4, qPL5, beq_self_eq_true, qED0, qED1, placeR]
        rw [drawR_ok]; case h => simp (config := { decide := true }) [calm, calmPair, calmTwo, List.range, List.range.loop, sameO_refl, plg0, plg1, plg2, plg3, plg4, plg5, plg6, plg7, plg8, plg9, plg10, plg11, plg12, plg13]
        simp only [h47, h46, he', ev1_eqv, qES0, qES1, qES2, env0, List.length_cons, List.length_nil, Nat.reduceAdd, Nat.reduceSub, List.replicate, List.cons_append, List.nil_append, opd, Env.put, Env.at, List.set_cons_zero, List.set_cons_succ, List.getD_cons_zero, List.getD_cons_succ, freezeL, resVs, oneOr, Option.map_some, Option.map_none, List.map_cons, List.map_nil, if_true, if_false, Bool.not_true, Bool.not_false, Bool.false_eq_true, reduceIte, decide_true, decide_false, Int.reduceLT, Int.reduceLE, Int.reduceGT, Int.reduceGE, Int.reduceEq, Int.reduceBEq, Int.reduceBNe, load_ptr, ldV_some, cellAt_cells, List.getElem?_cons_zero, List.getElem?_cons_succ, store_ptr, stO_some, setAt_0, setAt_1, setAt_2, setAt_3, setAt_4, setAt_5, setAt_6, setAt_7, setAt_8, setAt_9, setAt_10, setAt_11, setAt_12, cells_int, cells_bool, cells_str, cells_nils, cells_nilp, cells_ptr, cells_sl, cells_u8, cells_u16, cells_agg, get_upd_is, Option.isSome_some, upd_upd, ev1_nchkV, ev1_faV, nchkV_ptr, faV_ptr, ev1_extV, extV_tup, eqptr_nil, eqptr_ptr, Nat.zero_add, Nat.add_zero, qPL0, qPL1, qPL2, qPL3, qPL4, qPL5, beq_self_eq_true, qED0, qED1, placeR]
      by_cases h2 : kind = 2
      · subst h2
        simp only [any1, if_true, if_false, Ct.av, reduceCtorEq, Int.reduceEq] at h47 h46
        simp only [M40, h47, h46, he', ev1_eqv, q21, qES0, qES1, qES2, env0, List.length_cons, List.length_nil, Nat.reduceAdd, Nat.reduceSub, List.replicate, List.cons_append, List.nil_append, opd, Env.put, Env.at, List.set_cons_zero, List.set_cons_succ, List.getD_cons_zero, List.getD_cons_succ, freezeL, resVs, oneOr, Option.map_some, Option.map_none, List.map_cons, List.map_nil, if_true, if_false, Bool.not_true, Bool.not_false, Bool.false_eq_true, reduceIte, decide_true, decide_false, Int.reduceLT, Int.reduceLE, Int.reduceGT, Int.reduceGE, Int.reduceEq, Int.reduceBEq, Int.reduceBNe, load_ptr, ldV_some, cellAt_cells, List.getElem?_cons_zero, List.getElem?_cons_succ, store_ptr, stO_some, setAt_0, setAt_1, setAt_2, setAt_3, setAt_4, setAt_5, setAt_6, setAt_7, setAt_8, setAt_9, setAt_10, setAt_11, setAt_12, cells_int, cells_bool, cells_str, cells_nils, cells_nilp, cells_ptr, cells_sl, cells_u8, cells_u16, cells_agg, get_upd_is, Option.isSome_some, upd_upd, ev1_nchkV, ev1_faV, nchkV_ptr, faV_ptr, ev1_extV, extV_tup, eqptr_nil, eqptr_ptr, Nat.zero_add, Nat.add_zero, qPL0, qPL1, qPL2, qPL3, qPL4, qPL5, beq_self_eq_true, qED0, qED1, placeR]
        rw [drawR_ok]; case h => simp (config := { decide := true }) [calm, calmPair, calmTwo, List.range, List.range.loop, sameO_refl, plg0, plg1, plg2, plg3, plg4, plg5, plg6, plg7, plg8, plg9, plg10, plg11, plg12, plg13]
        simp only [h47, h46, he', ev1_eqv, qES0, qES1, qES2, env0, List.length_cons, List.length_nil, Nat.reduceAdd, Nat.reduceSub, List.replicate, List.cons_append, List.nil_append, opd, Env.put, Env.at, List.set_cons_zero, List.set_cons_succ, List.getD_cons_zero, List.getD_cons_succ, freezeL, resVs, oneOr, Option.map_some, Option.map_none, List.map_cons, List.map_nil, if_true, if_false, Bool.not_true, Bool.not_false, Bool.false_eq_true, reduceIte, decide_true, decide_false, Int.reduceLT, Int.reduceLE, Int.reduceGT, Int.reduceGE, Int.reduceEq, Int.reduceBEq, Int.reduceBNe, load_ptr, ldV_some, cellAt_cells, List.getElem?_cons_zero, List.getElem?_cons_succ, store_ptr, stO_some, setAt_0, setAt_1, setAt_2, setAt_3, setAt_4, setAt_5, setAt_6, setAt_7, setAt_8, setAt_9, setAt_10, setAt_11, setAt_12, cells_int, cells_bool, cells_str, cells_nils, cells_nilp, cells_ptr, cells_sl, cells_u8, cells_u16, cells_agg, get_upd_is, Option.isSome_some, upd_upd, ev1_nchkV, ev1_faV, nchkV_ptr, faV_ptr, ev1_extV, extV_tup, eqptr_nil, eqptr_ptr, Nat.zero_add, Nat.add_zero, qPL0, qPL1, qPL2, qPL3, qPL4, qPL5, beq_self_eq_true, qED0, qED1, placeR]
      by_cases h3 : kind = 3
      · subst h3
        simp only [any1, if_true, if_false, Ct.av, reduceCtorEq, Int.reduceEq] at h47 h46
        simp only [M40, h47, h46, he', ev1_eqv, q31, q32, qES0, qES1, qES2, env0, List.length_cons, List.length_nil, Nat.reduceAdd, Nat.reduceSub, List.replicate, List.cons_append, List.nil_append, opd, Env.put, Env.at, List.set_cons_zero, List.set_cons_succ, List.getD_cons_zero, List.getD_cons_succ, freezeL, resVs, oneOr, Option.map_some, Option.map_none, List.map_cons, List.map_nil, if_true, if_false, Bool.not_true, Bool.not_false, Bool.false_eq_true, reduceIte, decide_true, decide_false, Int.reduceLT, Int.reduceLE, Int.reduceGT, Int.reduceGE, Int.reduceEq, Int.reduceBEq, Int.reduceBNe, load_ptr, ldV_some, cellAt_cells, List.getElem?_cons_zero, List.getElem?_cons_succ, store_ptr, stO_some, setAt_0, setAt_1, setAt_2, setAt_3, setAt_4, setAt_5, setAt_6, setAt_7, setAt_8, setAt_9, setAt_10, setAt_11, setAt_12, cells_int, cells_bool, cells_str, cells_nils, cells_nilp, cells_ptr, cells_sl, cells_u8, cells_u16, cells_agg, get_upd_is, Option.isSome_some, upd_upd, ev1_nchkV, ev1_faV, nchkV_ptr, faV_ptr, ev1_extV, extV_tup, eqptr_nil, eqptr_ptr, Nat.zero_add, Nat.add_zero, qPL0, qPL1, qPL2, qPL3, qPL4, qPL5, beq_self_eq_true, qED0, qED1, placeR]
        rw [drawR_ok]; case h => simp (config := { decide := true }) [calm, calmPair, calmTwo, List.range, List.range.loop, sameO_refl, plg0, plg1, plg2, plg3, plg4, plg5, plg6, plg7, plg8, plg9, plg10, plg11, plg12, plg13]
        simp only [h47, h46, he', ev1_eqv, qES0, qES1, qES2, env0, List.length_cons, List.length_nil, Nat.reduceAdd, Nat.reduceSub, List.replicate, List.cons_append, List.nil_append, opd, Env.put, Env.at, List.set_cons_zero, List.set_cons_succ, List.getD_cons_zero, List.getD_cons_succ, freezeL, resVs, oneOr, Option.map_some, Option.map_none, List.map_cons, List.map_nil, if_true, if_false, Bool.not_true, Bool.not_false, Bool.false_eq_true, reduceIte, decide_true, decide_false, Int.reduceLT, Int.reduceLE, Int.reduceGT, Int.reduceGE, Int.reduceEq, Int.reduceBEq, Int.reduceBNe, load_ptr, ldV_some, cellAt_cells, List.getElem?_cons_zero, List.getElem?_cons_succ, store_ptr, stO_some, setAt_0, setAt_1, setAt_2, setAt_3, setAt_4, setAt_5, setAt_6, setAt_7, setAt_8, setAt_9, setAt_10, setAt_11, setAt_12, cells_int, cells_bool, cells_str, cells_nils, cells_nilp, cells_ptr, cells_sl, cells_u8, cells_u16, cells_agg, get_upd_is, Option.isSome_some, upd_upd, ev1_nchkV, ev1_faV, nchkV_ptr, faV_ptr, ev1_extV, extV_tup, eqptr_nil, eqptr_ptr, Nat.zero_add, Nat.add_zero, qPL0, qPL1, qPL2, qPL3, qPL4, qPL5, beq_self_eq_true, qED0, qED1, placeR]
      unfold any1 at hcm
      rw [if_neg h1, if_neg h2, if_neg h3] at hcm
      cases hcm
    | true =>
      rw [hofr' true hx]
      rw [hx] at he'
      simp only [Bool.true_and, Fr.cells, if_true, Pn.fr, Pn.ctl]
      by_cases h1 : kind = 1
      · subst h1
        simp only [any1, if_true, Ct.av] at h47 h46
        simp only [M40, h47, h46, he', ev1_eqv, qES0, qES1, qES2, env0, List.length_cons, List.length_nil, Nat.reduceAdd, Nat.reduceSub, List.replicate, List.cons_append, List.nil_append, opd, Env.put, Env.at, List.set_cons_zero, List.set_cons_succ, List.getD_cons_zero, List.getD_cons_succ, freezeL, resVs, oneOr, Option.map_some, Option.map_none, List.map_cons, List.map_nil, if_true, if_false, Bool.not_true, Bool.not_false, Bool.false_eq_true, reduceIte, decide_true, decide_false, Int.reduceLT, Int.reduceLE, Int.reduceGT, Int.reduceGE, Int.reduceEq, Int.reduceBEq, Int.reduceBNe, load_ptr, ldV_some, cellAt_cells, List.getElem?_cons_zero, List.getElem?_cons_succ, store_ptr, stO_some, setAt_0, setAt_1, setAt_2, setAt_3, setAt_4, setAt_5, setAt_6, setAt_7, setAt_8, setAt_9, setAt_10, setAt_11, setAt_12, cells_int, cells_bool, cells_str, cells_nils, cells_nilp, cells_ptr, cells_sl, cells_u8, cells_u16, cells_agg, get_upd_is, Option.isSome_some, upd_upd, ev1_nchkV, ev1_faV, nchkV_ptr, faV_ptr, ev1_extV, extV_tup, eqptr_nil, eqptr_ptr, Nat.zero_add, Nat.add_zero, qPL0, qPL1, qPL2, qPL3, qPL4, qPL5, beq_self_eq_true, qED0, qED1, placeR]
        rw [drawR_ok]; case h => simp (config := { decide := true }) [calm, calmPair, calmTwo, List.range, List.range.loop, sameO_refl, plg0, plg1, plg2, plg3, plg4, plg5, plg6, plg7, plg8, plg9, plg10, plg11, plg12, plg13]
        simp only [h47, h46, he', ev1_eqv, any1, Ct.av, qES0, qES1, qES2, env0, List.length_cons, List.length_nil, Nat.reduceAdd, Nat.reduceSub, List.replicate, List.cons_append, List.nil_append, opd, Env.put, Env.at, List.set_cons_zero, List.set_cons_succ, List.getD_cons_zero, List.getD_cons_succ, freezeL, resVs, oneOr, Option.map_some, Option.map_none, List.map_cons, List.map_nil, if_true, if_false, Bool.not_true, Bool.not_false, Bool.false_eq_true, reduceIte, decide_true, decide_false, Int.reduceLT, Int.reduceLE, Int.reduceGT, Int.reduceGE, Int.reduceEq, Int.reduceBEq, Int.reduceBNe, load_ptr, ldV_some, cellAt_cells, List.getElem?_cons_zero, List.getElem?_cons_succ, store_ptr, stO_some, setAt_0, setAt_1, setAt_2, setAt_3, setAt_4, setAt_5, setAt_6, setAt_7, setAt_8, setAt_9, setAt_10, setAt_11, setAt_12, cells_int, cells_bool, cells_str, cells_nils, cells_nilp, cells_ptr, cells_sl, cells_u8, cells_u16, cells_agg, get_upd_is, Option.isSome_some, upd_upd, ev1_nchkV, ev1_faV, nchkV_ptr, faV_ptr, ev1_extV, extV_tup, eqptr_nil, eqptr_ptr, Nat.zero_add, Nat.add_zero, qPL0, qPL1, qPL2, qPL3, qPL4, qPL5, beq_self_eq_true, qED0, qED1, placeR]
      by_cases h2 : kind = 2
      · subst h2
        simp only [any1, if_true, if_false, Ct.av, reduceCtorEq, Int.reduceEq] at h47 h46
        simp only [M40, h47, h46, he', ev1_eqv, q21, qES0, qES1, qES2, env0, List.length_cons, List.length_nil, Nat.reduceAdd, Nat.reduceSub, List.replicate, List.cons_append, List.nil_append, opd, Env.put, Env.at, List.set_cons_zero, List.set_cons_succ, List.getD_cons_zero, List.getD_cons_succ, freezeL, resVs, oneOr, Option.map_some, Option.map_none, List.map_cons, List.map_nil, if_true, if_false, Bool.not_true, Bool.not_false, Bool.false_eq_true, reduceIte, decide_true, decide_false, Int.reduceLT, Int.reduceLE, Int.reduceGT, Int.reduceGE, Int.reduceEq, Int.reduceBEq, Int.reduceBNe, load_ptr, ldV_some, cellAt_cells, List.getElem?_cons_zero, List.getElem?_cons_succ, store_ptr, stO_some, setAt_0, setAt_1, setAt_2, setAt_3, setAt_4, setAt_5, setAt_6, setAt_7, setAt_8, setAt_9, setAt_10, setAt_11, setAt_12, cells_int, cells_bool, cells_str, cells_nils, cells_nilp, cells_ptr, cells_sl, cells_u8, cells_u16, cells_agg, get_upd_is, Option.isSome_some, upd_upd, ev1_nchkV, ev1_faV, nchkV_ptr, faV_ptr, ev1_extV, extV_tup, eqptr_nil, eqptr_ptr, Nat.zero_add, Nat.add_zero, qPL0, qPL1, qPL2, qPL3, qPL4, qPL5, beq_self_eq_true, qED0, qED1, placeR]
        rw [drawR_ok]; case h => simp (config := { decide := true }) [calm, calmPair, calmTwo, List.range, List.range.loop, sameO_refl, plg0, plg1, plg2, plg3, plg4, plg5, plg6, plg7, plg8, plg9, plg10, plg11, plg12, plg13]
        simp only [h47, h46, he', ev1_eqv, any1, Ct.av, qES0, qES1, qES2, env0, List.length_cons, List.length_nil, Nat.reduceAdd, Nat.reduceSub, List.replicate, List.cons_append, List.nil_append, opd, Env.put, Env.at, List.set_cons_zero, List.set_cons_succ, List.getD_cons_zero, List.getD_cons_succ, freezeL, resVs, oneOr, Option.map_some, Option.map_none, List.map_cons, List.map_nil, if_true, if_false, Bool.not_true, Bool.not_false, Bool.false_eq_true, reduceIte, decide_true, decide_false, Int.reduceLT, Int.reduceLE, Int.reduceGT, Int.reduceGE, Int.reduceEq, Int.reduceBEq, Int.reduceBNe, load_ptr, ldV_some, cellAt_cells, List.getElem?_cons_zero, List.getElem?_cons_succ, store_ptr, stO_some, setAt_0, setAt_1, setAt_2, setAt_3, setAt_4, setAt_5, setAt_6, setAt_7, setAt_8, setAt_9, setAt_10, setAt_11, setAt_12, cells_int, cells_bool, cells_str, cells_nils, cells_nilp, cells_ptr, cells_sl, cells_u8, cells_u16, cells_agg, get_upd_is, Option.isSome_some, upd_upd, ev1_nchkV, ev1_faV, nchkV_ptr, faV_ptr, ev1_extV, extV_tup, eqptr_nil, eqptr_ptr, Nat.zero_add, Nat.add_zero, qPL0, qPL1, qPL2, qPL3, qPL4, qPL5, beq_self_eq_true, qED0, qED1, placeR]
      by_cases h3 : kind = 3
      · subst h3
        simp only [any1, if_true, if_false, Ct.av, reduceCtorEq, Int.reduceEq] at h47 h46
        simp only [M40, h47, h46, he', ev1_eqv, q31, q32, qES0, qES1, qES2, env0, List.length_cons, List.length_nil, Nat.reduceAdd, Nat.reduceSub, List.replicate, List.cons_append, List.nil_append, opd, Env.put, Env.at, List.set_cons_zero, List.set_cons_succ, List.getD_cons_zero, List.getD_cons_succ, freezeL, resVs, oneOr, Option.map_some, Option.map_none, List.map_cons, List.map_nil, if_true, if_false, Bool.not_true, Bool.not_false, Bool.false_eq_true, reduceIte, decide_true, decide_false, Int.reduceLT, Int.reduceLE, Int.reduceGT, Int.reduceGE, Int.reduceEq, Int.reduceBEq, Int.reduceBNe, load_ptr, ldV_some, cellAt_cells, List.getElem?_cons_zero, List.getElem?_cons_succ, store_ptr, stO_some, setAt_0, setAt_1, setAt_2, setAt_3, setAt_4, setAt_5, setAt_6, setAt_7, setAt_8, setAt_9, setAt_10, setAt_11, setAt_12, cells_int, cells_bool, cells_str, cells_nils, cells_nilp, cells_ptr, cells_sl, cells_u8, cells_u16, cells_agg, get_upd_is, Option.isSome_some, upd_upd, ev1_nchkV, ev1_faV, nchkV_ptr, faV_ptr, ev1_extV, extV_tup, eqptr_nil, eqptr_ptr, Nat.zero_add, Nat.add_zero, qPL0, qPL1, qPL2, qPL3, qPL4, qPL5, beq_self_eq_true, qED0, qED1, placeR]
        rw [drawR_ok]; case h => simp (config := { decide := true }) [calm, calmPair, calmTwo, List.range, List.range.loop, sameO_refl, plg0, plg1, plg2, plg3, plg4, plg5, plg6, plg7, plg8, plg9, plg10, plg11, plg12, plg13]
        simp only [h47, h46, he', ev1_eqv, any1, Ct.av, qES0, qES1, qES2, env0, List.length_cons, List.length_nil, Nat.reduceAdd, Nat.reduceSub, List.replicate, List.cons_append, List.nil_append, opd, Env.put, Env.at, List.set_cons_zero, List.set_cons_succ, List.getD_cons_zero, List.getD_cons_succ, freezeL, resVs, oneOr, Option.map_some, Option.map_none, List.map_cons, List.map_nil, if_true, if_false, Bool.not_true, Bool.not_false, Bool.false_eq_true, reduceIte, decide_true, decide_false, Int.reduceLT, Int.reduceLE, Int.reduceGT, Int.reduceGE, Int.reduceEq, Int.reduceBEq, Int.reduceBNe, load_ptr, ldV_some, cellAt_cells, List.getElem?_cons_zero, List.getElem?_cons_succ, store_ptr, stO_some, setAt_0, setAt_1, setAt_2, setAt_3, setAt_4, setAt_5, setAt_6, setAt_7, setAt_8, setAt_9, setAt_10, setAt_11, setAt_12, cells_int, cells_bool, cells_str, cells_nils, cells_nilp, cells_ptr, cells_sl, cells_u8, cells_u16, cells_agg, get_upd_is, Option.isSome_some, upd_upd, ev1_nchkV, ev1_faV, nchkV_ptr, faV_ptr, ev1_extV, extV_tup, eqptr_nil, eqptr_ptr, Nat.zero_add, Nat.add_zero, qPL0, qPL1, qPL2, qPL3, qPL4, qPL5, beq_self_eq_true, qED0, qED1, placeR]
      unfold any1 at hcm
      rw [if_neg h1, if_neg h2, if_neg h3] at hcm
      cases hcm
theorem of_pure : PureOk (evL2 1000) 40 hOf := pureOk_of (by
  intro args s v h
  unfold hOf at h
  split at h
  · obtain ⟨p, hp, rfl⟩ := one_of h
    rw [toPn_of hp]
    refine ⟨?_, by simp [flatL, p.flat], of_val p St.nil⟩
    unfold Pn.ofr
    split
    · simp [Ab.flat, Ab.flatL, Fr.cells, Ct.flat]
    · rfl
  · cases h)
end Go.Proofs.YthcblggiojpmcaaDoor
/- Layer 4 with all of its frames' functions as what they answer; what bytes say of frames. No conditions. -/
set_option linter.unusedSimpArgs false
set_option linter.unusedVariables false
set_option maxRecDepth 100000
namespace Go.Proofs.YthcblggiojpmcaaDoor
open Go Go.Ab
def lst3 (f : Nat) : Option (List AV → St → Option AV) := if f = 42 then some hFPut else if f = 40 then some hOf else none
noncomputable def ext3 := extWith ext2 lst3
theorem ext3_ok : ∀ w0, ExtOk Tryd.prog tabGl w0 ext3 := extOk_add (tableOf_ok _) mixed tab_flat ext2_ok lst3 (by
  intro f h hf
  unfold lst3 at hf
  rcases some_of hf with ⟨rfl, rfl⟩ | hf
  · exact ⟨by rw [tab42]; rfl, 1000, fput_pure⟩
  rcases some_of hf with ⟨rfl, rfl⟩ | hf
  · exact ⟨by rw [tab40]; rfl, 1000, of_pure⟩
  cases hf)
noncomputable def evL3 : Nat → Calls' := evF tabGl (tableOf Tryd.prog) ext3
theorem evL3_ok (w0 : World) (k : Nat) : CallOk Tryd.prog tabGl w0 (evL3 k) := evF_sound (tableOf_ok _) (ext3_ok w0) mixed k
theorem evL3_in {k f : Nat} {m : MFun} (hx : ext3 f = none) (hF : tableOf Tryd.prog f = some m) (args : List AV) (s : St) :
    evL3 (k + 1) f args s = outR m.res (evC tabGl (evL3 k) k m.body (env0 m.ntmps args) s) := evF_in hx hF args s
/-! Calls. -/
theorem e20 (k : Nat) (s : St) : evL3 (k + 1) 20 [] s = some (.bool true, s) := evF_ext (H := hTrue) rfl rfl
theorem e32 (k : Nat) (p : Pn) (s : St) : evL3 (k + 1) 32 [.agg p.cells] s = some (.agg ({ p with body := p.body.take 70 } : Pn).cells, s) := evF_ext (H := hPlain) rfl rfl
theorem e41 (k : Nat) (p : Pn) (s : St) : evL3 (k + 1) 41 [.agg p.cells] s = some (.bool p.may, s) := evF_ext (H := hRMay) rfl rfl
theorem e40 (k : Nat) (p : Pn) (s : St) : evL3 (k + 1) 40 [.agg p.cells] s = some (p.ofr, s) := evF_ext (H := hOf) rfl rfl
theorem e21 (k : Nat) (l : List UInt8) (n : Nat) (s : St) : evL3 (k + 1) 21 [.str l, .int .i64 (n : Int)] s = some (.str (l.take n), s) := evF_ext (H := hText) rfl (by simp only [List.map_cons, List.map_nil, dry1_str, dry1_int, hText]; rw [if_pos (by omega)]; simp)
theorem e42 (k : Nat) (f : Fr) (s : St) : evL3 (k + 1) 42 [.agg f.cells] s = some (if f.may = true then .tup [.sl f.bytes (3 + f.body.length) none, .bool true] else .tup [.nils, .bool false], s) := evF_ext (H := hFPut) rfl (by simp only [List.map_cons, List.map_nil, dry1_agg, hFPut, toFr, Fr.cells, toCt_av, Option.map_some])
theorem e47 (k : Nat) (f : Fr) (s : St) : evL3 (k + 1) 47 [.agg f.cells] s = some (.bool f.may, s) := evF_ext (H := hFMay) rfl (by simp only [List.map_cons, List.map_nil, dry1_agg, hFMay, toFr, Fr.cells, toCt_av, Option.map_some])
theorem e46 (k : Nat) (f : Fr) (s : St) : evL3 (k + 1) 46 [.agg f.cells] s = some (.agg f.pn.cells, s) := evF_ext (H := hFPlain) rfl (by simp only [List.map_cons, List.map_nil, dry1_agg, hFPlain, toFr, Fr.cells, toCt_av, Option.map_some])
theorem e45 (k : Nat) (f g : Fr) (s : St) : evL3 (k + 1) 45 [.agg f.cells, .agg g.cells] s = some (.bool (f.eq g), s) := evF_ext (H := hEq) rfl (by simp only [List.map_cons, List.map_nil, dry1_agg, hEq, toFr, Fr.cells, toCt_av, Option.map_some])
theorem e44 (k : Nat) (p : Pn) (hp : p.may = true) (s : St) : evL3 (k + 1) 44 [.agg p.cells] s = some (.sl p.bytes (3 + p.body.length) none, s) := evF_ext (H := hRPut) rfl (by
  show (if p.may = true then some (AV.sl p.bytes (3 + p.body.length) none) else none) = _
  rw [if_pos hp])
theorem e43 (k : Nat) (bs : List UInt8) (n : Nat) (tk : Option (Nat × Nat × Nat)) (h : bs.length = n) (s : St) : evL3 (k + 1) 43 [.sl (bytesAV bs) n tk] s = some (match gfr bs with
    | some f => .tup [.agg f.cells, .bool true]
    | none => .tup [.agg Fr.zero.cells, .bool false], s) := by
  subst h
  exact evF_ext (H := hFGet) rfl (by simp only [List.map_cons, List.map_nil, dry1_sl, hFGet, toBs_mk, Option.map_some]; rfl)
/-! What may be, may be as bytes. -/
theorem num_range (c : Ct) (h : c.may = true) : 0 ≤ c.num ∧ c.num < 256 := by
  cases c with
  | n => cases h
  | i nr ns pf =>
    simp only [Ct.may, Bool.and_eq_true] at h
    obtain ⟨a1, a2⟩ := few_iff h.1
    obtain ⟨a3, a4⟩ := few_iff h.2
    cases pf <;> simp [Ct.num] <;> omega
  | s kind nr pf =>
    simp only [Ct.may, Bool.and_eq_true] at h
    obtain ⟨a1, a2⟩ := few_iff h.1
    obtain ⟨a3, a4⟩ := few_iff h.2
    cases pf <;> simp [Ct.num] <;> omega
  | u kind pf =>
    have : 0 ≤ code kind ∧ code kind ≤ 143 := by
      unfold code
      repeat' split
      all_goals omega
    cases pf <;> simp [Ct.num] <;> omega
theorem fr_may_parts {f : Fr} (h : f.may = true) : 0 ≤ f.seat ∧ f.seat ≤ 127 ∧ 0 ≤ f.count ∧ f.count ≤ 255 ∧ f.ctl.may = true ∧ f.body.length ≤ 64 ∧ (f.ctl.isS = true → f.body = []) := by
  obtain ⟨seat, count, cmd, c, body⟩ := f
  unfold Fr.may at h
  split at h
  · cases h
  · rename_i hb
    simp only [not_or] at hb
    simp only [Bool.and_eq_true, decide_eq_true_eq, Bool.or_eq_true, Bool.not_eq_true', beq_iff_eq] at h
    show 0 ≤ seat ∧ seat ≤ 127 ∧ 0 ≤ count ∧ count ≤ 255 ∧ c.may = true ∧ body.length ≤ 64 ∧ (c.isS = true → body = [])
    refine ⟨by omega, by omega, by omega, by omega, h.1.1, by omega, fun hs => ?_⟩
    rcases h.2 with q | q
    · rw [q] at hs; cases hs
    · exact q
def Fr.B (f : Fr) : List UInt8 := UInt8.ofNat (f.seat * 2 + (if f.cmd = true then 1 else 0)).toNat :: UInt8.ofNat f.count.toNat :: UInt8.ofNat f.ctl.num.toNat :: f.body
theorem u8_back (n : Int) (h0 : 0 ≤ n) (h1 : n < 256) : ((UInt8.ofNat n.toNat).toNat : Int) = n := by
  rw [UInt8.toNat_ofNat_of_lt' (by rw [UInt8.size]; omega)]; omega
theorem fr_bytes (f : Fr) (h : f.may = true) : f.bytes = bytesAV f.B := by
  obtain ⟨a1, a2, a3, a4, a5, a6, a7⟩ := fr_may_parts h
  obtain ⟨n1, n2⟩ := num_range _ a5
  have hs : 0 ≤ (f.seat * 2 + (if f.cmd = true then 1 else 0)) ∧ (f.seat * 2 + (if f.cmd = true then 1 else 0)) < 256 := by split <;> omega
  simp only [Fr.bytes, Fr.B, bytesAV, List.map_cons, u8_back _ hs.1 hs.2, u8_back _ a3 (show f.count < 256 by omega), u8_back _ n1 n2]
theorem fr_b2s (f : Fr) (h : f.may = true) : convP .b2s (.sl f.bytes (3 + f.body.length) none) = some (.str f.B) := by
  rw [fr_bytes f h]
  have : (bytesAV f.B).length = 3 + f.body.length := by rw [bytesAV_length]; simp [Fr.B]; omega
  simp [convP, this, toBytes_bytesAV]
theorem u8_nat_inj {a b : Int} (h0 : 0 ≤ a) (h1 : a < 256) (g0 : 0 ≤ b) (g1 : b < 256) (h : UInt8.ofNat a.toNat = UInt8.ofNat b.toNat) : a = b := by
  have := congrArg (fun x : UInt8 => (x.toNat : Int)) h
  simp only [u8_back a h0 h1, u8_back b g0 g1] at this
  exact this
theorem fr_B_inj (f g : Fr) (hf : f.may = true) (hg : g.may = true) (h : f.B = g.B) : f = g := by
  obtain ⟨a1, a2, a3, a4, a5, a6, a7⟩ := fr_may_parts hf
  obtain ⟨b1, b2, b3, b4, b5, b6, b7⟩ := fr_may_parts hg
  obtain ⟨n1, n2⟩ := num_range _ a5
  obtain ⟨m1, m2⟩ := num_range _ b5
  obtain ⟨seat, count, cmd, c, body⟩ := f
  obtain ⟨seat', count', cmd', c', body'⟩ := g
  simp only at a1 a2 a3 a4 b1 b2 b3 b4 n1 n2 m1 m2 a5 b5
  simp only [Fr.B, List.cons.injEq] at h
  obtain ⟨h1, h2, h3, h4⟩ := h
  have e1 := u8_nat_inj (by split <;> omega) (by split <;> omega) (by split <;> omega) (by split <;> omega) h1
  have e2 := u8_nat_inj (by omega) (by omega) (by omega) (by omega) h2
  have e3 := u8_nat_inj (by omega) (by omega) (by omega) (by omega) h3
  have e4 := num_inj c c' a5 b5 e3
  have e5 : seat = seat' ∧ cmd = cmd' := by cases cmd <;> cases cmd' <;> simp at e1 ⊢ <;> omega
  obtain ⟨rfl, rfl⟩ := e5
  subst e2 e4 h4
  rfl
theorem pn_may_fr {p : Pn} (h : p.may = true) : p.fr.may = true := by
  simp only [Pn.may, Bool.and_eq_true] at h; exact h.1
theorem pn_back {p : Pn} (h : p.may = true) : p.fr.pn = p := by
  have h1 := pn_exact p (pn_may_fr h)
  simp only [Pn.may, Bool.and_eq_true] at h
  rw [h.2] at h1
  exact of_decide_eq_true h1
theorem pn_B (p q : Pn) (hp : p.may = true) (hq : q.may = true) : decide (p.fr.B = q.fr.B) = decide (p = q) := by
  by_cases h : p = q
  · subst h; simp
  · have : ¬ p.fr.B = q.fr.B := fun hb => h (by
      have := fr_B_inj _ _ (pn_may_fr hp) (pn_may_fr hq) hb
      rw [← pn_back hp, ← pn_back hq, this])
    simp [h, this]
theorem plain_pn {al : List AV} (h : ScL Tryd.prog plainTypes al) : ∃ p : Pn, al = p.cells := by
  obtain ⟨seat, count, cmd, kind, sort, nr, ns, pf, body, rfl⟩ := plain_of h
  exact ⟨⟨seat, count, cmd, kind, sort, nr, ns, pf, body⟩, rfl⟩
theorem gct_i : ∀ j, j < 8 → ∀ l, l < 8 → ∀ pf : Bool, gct (j * 32 + l * 2 + (if pf = true then 16 else 0)) = .i (j : Nat) (l : Nat) pf := by decide +kernel
theorem gct_s : ∀ j, j < 3 → ∀ l, l < 8 → ∀ pf : Bool, gct (l * 32 + j * 4 + 1 + (if pf = true then 16 else 0)) = .s (j : Nat) (l : Nat) pf := by decide +kernel
theorem gct_u : ∀ j, j < 8 → 1 ≤ j → ∀ pf : Bool, gct ((code (j : Nat)).toNat + (if pf = true then 16 else 0)) = .u (j : Nat) pf := by decide +kernel
/-- A control's byte, read again. -/
theorem gct_num (c : Ct) (h : c.may = true) : gct c.num.toNat = c := by
  cases c with
  | n => cases h
  | i nr ns pf =>
    simp only [Ct.may, Bool.and_eq_true] at h
    obtain ⟨a1, a2⟩ := few_iff h.1
    obtain ⟨a3, a4⟩ := few_iff h.2
    have := gct_i nr.toNat (by omega) ns.toNat (by omega) pf
    rw [Int.toNat_of_nonneg a1, Int.toNat_of_nonneg a3] at this
    refine Eq.trans (congrArg gct ?_) this
    cases pf <;> simp [Ct.num] <;> omega
  | s kind nr pf =>
    simp only [Ct.may, Bool.and_eq_true] at h
    obtain ⟨a1, a2⟩ := few_iff h.1
    obtain ⟨a3, a4⟩ := few_iff h.2
    have := gct_s kind.toNat (by omega) nr.toNat (by omega) pf
    rw [Int.toNat_of_nonneg a1, Int.toNat_of_nonneg a3] at this
    refine Eq.trans (congrArg gct ?_) this
    cases pf <;> simp [Ct.num] <;> omega
  | u kind pf =>
    simp only [Ct.may, Bool.and_eq_true, decide_eq_true_eq] at h
    have hc : 0 ≤ code kind := by
      unfold code
      repeat' split
      all_goals omega
    have := gct_u kind.toNat (by omega) (by omega) pf
    rw [Int.toNat_of_nonneg (by omega)] at this
    refine Eq.trans (congrArg gct ?_) this
    cases pf <;> simp [Ct.num] <;> omega
/-- A frame's bytes, read again. -/
theorem gfr_B (f : Fr) (h : f.may = true) : gfr f.B = some f := by
  obtain ⟨a1, a2, a3, a4, a5, a6, a7⟩ := fr_may_parts h
  obtain ⟨n1, n2⟩ := num_range _ a5
  obtain ⟨seat, count, cmd, c, body⟩ := f
  simp only at a1 a2 a3 a4 a5 n1 n2
  have b1 := u8_back (seat * 2 + (if cmd = true then 1 else 0)) (by split <;> omega) (by split <;> omega)
  have b2 := u8_back count a3 (by omega)
  have b3 := u8_back c.num n1 n2
  have e1 : (((UInt8.ofNat (seat * 2 + (if cmd = true then 1 else 0)).toNat).toNat / 2 : Nat) : Int) = seat := by
    revert b1; cases cmd <;> simp <;> omega
  have e2 : decide ((UInt8.ofNat (seat * 2 + (if cmd = true then 1 else 0)).toNat).toNat % 2 = 1) = cmd := by
    revert b1; cases cmd <;> simp <;> omega
  have e3 : gct (UInt8.ofNat c.num.toNat).toNat = c := by
    rw [show (UInt8.ofNat c.num.toNat).toNat = c.num.toNat by omega]; exact gct_num c a5
  simp only [Fr.B, gfr, e1, e2, e3, b2]
  rw [if_pos h]
theorem may_is {c : Ct} (h : c.may = true) : c.is = true := by cases c <;> first | rfl | cases h
noncomputable instance : DecidableEq Fr := fun _ _ => Classical.propDecidable _
theorem fr_eq (f g : Fr) (h : f.may = true) : f.eq g = decide (f = g) := by
  have hi := may_is (fr_may_ctl h)
  obtain ⟨seat, count, cmd, c, body⟩ := f
  obtain ⟨seat', count', cmd', c', body'⟩ := g
  simp only [Fr.eq, Fr.mk.injEq] at hi ⊢
  rw [hi]
  by_cases h1 : seat = seat' <;> by_cases h2 : count = count' <;> by_cases h3 : cmd = cmd' <;> by_cases h4 : c = c' <;> by_cases h5 : body = body' <;> simp [h1, h2, h3, h4, h5]
theorem pn_fr_eq (p q : Pn) (hp : p.may = true) (hq : q.may = true) : p.fr.eq q.fr = decide (p = q) := by
  rw [fr_eq _ _ (pn_may_fr hp)]
  by_cases h : p = q
  · subst h; simp
  · have : ¬ p.fr = q.fr := fun hb => h (by rw [← pn_back hp, ← pn_back hq, hb])
    simp [h, this]
theorem zero_may : Fr.zero.may = false := rfl
theorem tmodQ (n d : Int) (hd : 0 < d) : -d < n.tmod d := by
  rcases Int.le_total 0 n with h | h
  · have := Int.tmod_nonneg d h; omega
  · have := Int.tmod_lt_of_pos (-n) hd
    rw [Int.neg_tmod] at this
    omega
/-- A number that is made one of the first few. -/
theorem modQ (n d : Int) (hd : 0 < d) (hd1 : d ≤ 1000000) : IntKind.i64.wrap (n.tmod d + d) = n.tmod d + d ∧ 0 ≤ (n.tmod d + d).tmod d ∧ (n.tmod d + d).tmod d < d := by
  have r1 := tmodQ n d hd
  have r2 := Int.tmod_lt_of_pos n hd
  exact ⟨wrapI _ (by omega) (by omega), Int.tmod_nonneg _ (by omega), Int.tmod_lt_of_pos _ hd⟩
end Go.Proofs.YthcblggiojpmcaaDoor
