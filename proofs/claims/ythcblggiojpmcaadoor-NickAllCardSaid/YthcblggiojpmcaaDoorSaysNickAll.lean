/- What the evaluator says of the law NickAll: true. No conditions. -/
import Derived.Test.YthcblggiojpmcaaDoorTpW
import Derived.Test.YthcblggiojpmcaaDoorM4_3
import Derived.Test.YthcblggiojpmcaaDoorPlainT
import Derived.Test.YthcblggiojpmcaaDoorArgS
namespace Go.Proofs.YthcblggiojpmcaaDoor.nickAll
open Go Go.Ab
set_option linter.unusedVariables false
set_option linter.unusedSimpArgs false
set_option maxRecDepth 100000 in
set_option maxHeartbeats 8000000 in
theorem says (b0 : List UInt8) (hb0 : (b0.length : Int) ≤ IntKind.i64.max) (n1 : Int) (hn1 : IntKind.has .i64 n1) (n2 : Int) (hn2 : IntKind.has .i32 n2) : Ab.saysTrue (evP' 1000 3 [.str b0, .int .i64 n1, .int .i32 n2] Ab.St.nil) = true := by
  have hb := p20 998
  have hT : ∀ s, evP' (998 + 1) 21 [.str b0, .int .i64 40] s = some (.str (b0.take 40), s) := p21 998 b0 40
  have hl : (b0.take 40).length ≤ 900 := by rw [List.length_take]; omega
  generalize b0.take 40 = l at *
  have h22 := p22 998 l hl
  have h23 := p23 998 l hl
  have h24 := p24 998 l hl
  have h25 := p25 998 l hl
  have h26 := p26 998 l n1 hl
  have h27 := p27 998 l n1 hl
  have h28 := p28 998 l hl
  have h29 := p29 998 l hl
  have h30 := p30 998 n2
  have h31 := p31 998 n2
  have cv : IntKind.i64.wrap n2 = n2 := by
    have hn := hn2
    unfold IntKind.has at hn; simp only [IntKind.min, IntKind.max, IntKind.bits, IntKind.signed] at hn; simp at hn
    rw [IntKind.wrap_i64]; omega
  generalize mayR kindOf l = mb at *
  generalize (((rns l).length : Nat) : Int) = ln at *
  generalize cutR l n1 = cu at *
  generalize plainR kindOf l = pl at *
  generalize kindOf n2 = kd at *
  have q1 := eqB mb
  have q2 : (ln == ln) = true := beq_self_eq_true _
  have q3 : binV .eql (.str cu) (.str cu) = some (.bool true) := by
    show some (AV.bool (cu == cu)) = _
    rw [beq_self_eq_true]
  have q4 : binV .eql (.str pl) (.str pl) = some (.bool true) := by
    show some (AV.bool (pl == pl)) = _
    rw [beq_self_eq_true]
  have q5 : (kd == kd) = true := beq_self_eq_true _
  rw [show (1000 : Nat) = 999 + 1 from rfl, evP'_in rfl tab3]
  refine says_of ?_
  rw [show St.nil = St.nil.pl [] from rfl]
  simp only [M3, hb, hT, h22, h23, h24, h25, h26, h27, h28, h29, h30, h31, cv, q1, q2, q3, q4, q5, conv_int, ev1_eqv, ev1_extV, qES0, qES1, qES2, env0, List.length_cons, List.length_nil, Nat.reduceAdd, Nat.reduceSub, List.replicate, List.cons_append, List.nil_append, opd, Env.put, Env.at, List.set_cons_zero, List.set_cons_succ, List.getD_cons_zero, List.getD_cons_succ, freezeL, resVs, oneOr, Option.map_some, Option.map_none, List.map_cons, List.map_nil, if_true, if_false, Bool.not_true, Bool.not_false, Bool.false_eq_true, reduceIte, decide_true, decide_false, Int.reduceLT, Int.reduceLE, Int.reduceGT, Int.reduceGE, Int.reduceEq, Int.reduceBEq, Int.reduceBNe, load_ptr, ldV_some, cellAt_cells, List.getElem?_cons_zero, List.getElem?_cons_succ, store_ptr, stO_some, setAt_0, setAt_1, setAt_2, setAt_3, setAt_4, setAt_5, setAt_6, setAt_7, setAt_8, setAt_9, setAt_10, setAt_11, setAt_12, cells_int, cells_bool, cells_str, cells_nils, cells_nilp, cells_ptr, cells_sl, cells_u8, cells_u16, cells_agg, get_upd_is, Option.isSome_some, upd_upd, ev1_nchkV, ev1_faV, nchkV_ptr, faV_ptr, ev1_extV, extV_tup, eqptr_nil, eqptr_ptr, Nat.zero_add, Nat.add_zero, qPL0, qPL1, qPL2, qPL3, qPL4, qPL5, beq_self_eq_true]
end Go.Proofs.YthcblggiojpmcaaDoor.nickAll
