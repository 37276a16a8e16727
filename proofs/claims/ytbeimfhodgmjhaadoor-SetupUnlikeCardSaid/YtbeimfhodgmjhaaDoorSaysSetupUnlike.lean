/- What the evaluator says of the law SetupUnlike: true. No conditions. -/
import Derived.Test.YtbeimfhodgmjhaaDoorUnl
import Derived.Test.YtbeimfhodgmjhaaDoorPlainT8
namespace Go.Proofs.YtbeimfhodgmjhaaDoor.setupUnlike
open Go Go.Ab
set_option linter.unusedVariables false
set_option linter.unusedSimpArgs false
set_option maxRecDepth 100000 in
set_option maxHeartbeats 8000000 in
theorem says (as0 : List Ab.AV) (hs0 : Ab.ScL Tryd.prog setupTypes as0) (as1 : List Ab.AV) (hs1 : Ab.ScL Tryd.prog setupTypes as1) (as2 : List Ab.AV) (hs2 : Ab.ScL Tryd.prog xidTypes as2) (as3 : List Ab.AV) (hs3 : Ab.ScL Tryd.prog xidTypes as3) : Ab.saysTrue (evX 1000 20 [.agg as0, .agg as1, .agg as2, .agg as3] Ab.St.nil) = true := by
  have ok_of : ∀ {n : Int}, IntKind.has .u32 n → is32 n := by
    intro n hf
    unfold IntKind.has at hf; simp only [IntKind.min, IntKind.max, IntKind.bits, IntKind.signed] at hf; unfold is32; simp at hf ⊢; omega
  obtain ⟨f, t, a, c, b, s, w, z, ti, rfl, hf, ht⟩ := setup_of hs0
  obtain ⟨f', t', a', c', b', s', w', z', ti', rfl, hf', ht'⟩ := setup_of hs1
  obtain ⟨p, q, sl, n, an, nk, rfl, hp, hq⟩ := xid_of hs2
  obtain ⟨p', q', sl', n', an', nk', rfl, hp', hq'⟩ := xid_of hs3
  have hb := x21 998
  have s1 := x54 998 ⟨f, t, a, c, ⟨b, s, w, z, ti⟩⟩ ⟨ok_of hf, ok_of ht⟩
  have s2 := x54 998 ⟨f', t', a', c', ⟨b', s', w', z', ti'⟩⟩ ⟨ok_of hf', ok_of ht'⟩
  have s3 := x47 998 ⟨p, q, sl, n, an, nk⟩ ⟨ok_of hp, ok_of hq⟩
  have s4 := x47 998 ⟨p', q', sl', n', an', nk'⟩ ⟨ok_of hp', ok_of hq'⟩
  obtain ⟨b1, c1, d1⟩ := cmpS ⟨f, t, a, c, ⟨b, s, w, z, ti⟩⟩ ⟨f', t', a', c', ⟨b', s', w', z', ti'⟩⟩ ⟨ok_of hf, ok_of ht⟩ ⟨ok_of hf', ok_of ht'⟩
  obtain ⟨b2, c2, d2⟩ := cmpX ⟨p, q, sl, n, an, nk⟩ ⟨p', q', sl', n', an', nk'⟩ ⟨ok_of hp, ok_of hq⟩ ⟨ok_of hp', ok_of hq'⟩
  generalize (if Su.may ⟨f, t, a, c, ⟨b, s, w, z, ti⟩⟩ then setB ⟨f, t, a, c, ⟨b, s, w, z, ti⟩⟩ else []) = A1 at s1 d1
  generalize (if Su.may ⟨f', t', a', c', ⟨b', s', w', z', ti'⟩⟩ then setB ⟨f', t', a', c', ⟨b', s', w', z', ti'⟩⟩ else []) = A2 at s2 d1
  generalize (if Xi.may ⟨p, q, sl, n, an, nk⟩ then putX ⟨p, q, sl, n, an, nk⟩ else []) = A3 at s3 d2
  generalize (if Xi.may ⟨p', q', sl', n', an', nk'⟩ then putX ⟨p', q', sl', n', an', nk'⟩ else []) = A4 at s4 d2
  generalize decide (Su.may ⟨f, t, a, c, ⟨b, s, w, z, ti⟩⟩) = o1 at s1 d1
  generalize decide (Su.may ⟨f', t', a', c', ⟨b', s', w', z', ti'⟩⟩) = o2 at s2 d1
  generalize decide (Xi.may ⟨p, q, sl, n, an, nk⟩) = o3 at s3 d2
  generalize decide (Xi.may ⟨p', q', sl', n', an', nk'⟩) = o4 at s4 d2
  have e1 := str_eq A1 A2
  have e2 := str_eq A3 A4
  generalize (A1 == A2) = u1 at e1 d1
  generalize (A3 == A4) = u2 at e2 d2
  have g1 := eqBB u1 b1
  have g2 := eqBB u2 b2
  generalize (u1 == b1) = r1 at g1 d1
  generalize (u2 == b2) = r2 at g2 d2
  simp only [Su.cells, suC] at s1 s2 c1
  simp only [Xi.cells, xiC] at s3 s4 c2
  rw [show (1000 : Nat) = 999 + 1 from rfl, evX_in rfl tab20]
  refine says_of ?_
  rw [show St.nil = St.nil.pl [] from rfl]
  cases o1 <;> cases o2 <;> cases o3 <;> cases o4
  all_goals
    first | obtain rfl := d1 rfl rfl | skip
    first | obtain rfl := d2 rfl rfl | skip
    simp only [M20, hb, s1, s2, s3, s4, c1, c2, e1, e2, g1, g2, x_cut6, ev1_boxV, ev1_eqv, ev1_extV, qES0, qES1, qES2, env0, List.length_cons, List.length_nil, Nat.reduceAdd, Nat.reduceSub, List.replicate, List.cons_append, List.nil_append, opd, Env.put, Env.at, List.set_cons_zero, List.set_cons_succ, List.getD_cons_zero, List.getD_cons_succ, freezeL, resVs, oneOr, Option.map_some, Option.map_none, List.map_cons, List.map_nil, if_true, if_false, Bool.not_true, Bool.not_false, Bool.false_eq_true, reduceIte, decide_true, decide_false, Int.reduceLT, Int.reduceLE, Int.reduceGT, Int.reduceGE, Int.reduceEq, Int.reduceBEq, Int.reduceBNe, load_ptr, ldV_some, cellAt_cells, List.getElem?_cons_zero, List.getElem?_cons_succ, store_ptr, stO_some, setAt_0, setAt_1, setAt_2, setAt_3, setAt_4, setAt_5, setAt_6, setAt_7, setAt_8, setAt_9, setAt_10, setAt_11, setAt_12, cells_int, cells_bool, cells_str, cells_nils, cells_nilp, cells_ptr, cells_sl, cells_u8, cells_u16, cells_agg, get_upd_is, Option.isSome_some, upd_upd, ev1_nchkV, ev1_faV, nchkV_ptr, faV_ptr, ev1_extV, extV_tup, eqptr_nil, eqptr_ptr, Nat.zero_add, Nat.add_zero, qPL0, qPL1, qPL2, qPL3, qPL4, qPL5, beq_self_eq_true]
end Go.Proofs.YtbeimfhodgmjhaaDoor.setupUnlike
