/- in.In, and texts of numbers, as the evaluator answers them. No conditions. -/
import Derived.Test.YtochnineebgbgaaDoorMod
import Derived.Test.YtochnineebgbgaaDoorArgI
set_option linter.unusedSimpArgs false
set_option linter.unusedVariables false
set_option maxRecDepth 100000
namespace Go.Proofs.YtochnineebgbgaaDoor
open Go Go.Ab
theorem tab_flat (g : Nat) : Ab.flat (tabGl g) = true := by
  unfold tabGl
  split
  · decide +kernel
  · split
    · decide +kernel
    · rfl
theorem u8w (n : Int) (h0 : 0 ≤ n) (h1 : n < 256) : IntKind.u8.wrap n = n := by
  simp only [IntKind.wrap, IntKind.bits, IntKind.signed]; simp; omega
theorem conv_int (k k' : IntKind) (n : Int) : convP (.toInt k) (.int k' n) = some (.int k (k.wrap n)) := (id rfl)
def hTrue : List AV → St → Option AV
  | [], _ => some (.bool true)
  | _, _ => none
theorem begun_pure : PureOk (evT 999) 21 hTrue := pureOk_of (by
  intro args s v h
  unfold hTrue at h
  split at h
  · cases h
    obtain ⟨s1, h1⟩ := begunT_ev
    exact ⟨rfl, rfl, by rw [h1]; rfl⟩
  · cases h)
def hAdd : List AV → St → Option AV
  | [.int .i64 a, .int .i64 b], _ => some (.int .i64 ((a + b) % 8))
  | _, _ => none
theorem add_pure : PureOk (evT 1000) 22 hAdd := pureOk_of (by
  intro args s v h
  unfold hAdd at h
  split at h
  · cases h
    exact ⟨rfl, rfl, by rw [add_ev 999]; rfl⟩
  · cases h)
/-- The text of a number. -/
def bd (i : Nat) : List UInt8 := [UInt8.ofNat (97 + i % 26)]
def hBody : List AV → St → Option AV
  | [.int .i64 i], _ => if 0 ≤ i then some (.str (bd i.toNat)) else none
  | _, _ => none
theorem body_val (i : Nat) (s : St) : valR (evT 1000 34 [.int .i64 (i : Int)] (s.pl [])) = some (.str (bd i)) := by
  rw [show (1000 : Nat) = 999 + 1 from rfl, evT_in rfl tab34]
  have r1 := i64_rem (i : Int) 26 (by omega)
  have r2 : (i : Int).tmod 26 = ((i % 26 : Nat) : Int) := rfl
  rw [r2] at r1
  have w1 : IntKind.i64.wrap (97 + ((i % 26 : Nat) : Int)) = ((97 + i % 26 : Nat) : Int) := (wrapI _ (by omega) (by omega)).trans (by omega)
  have w2 := u8w ((97 + i % 26 : Nat) : Int) (by omega) (by omega)
  have cb : ∀ tk, convP .b2s (.sl [.int .u8 ((97 + i % 26 : Nat) : Int)] 1 tk) = some (.str (bd i)) := fun tk => by
    show (toBytes [.int .u8 ((97 + i % 26 : Nat) : Int)]).map AV.str = _
    simp only [toBytes, toByte, Int.toNat_natCast, bd, Option.map_some]
  simp only [M34, r1, w1, w2, cb, conv_int, qES0, qES1, qES2, env0, List.length_cons, List.length_nil, Nat.reduceAdd, Nat.reduceSub, List.replicate, List.cons_append, List.nil_append, opd, Env.put, Env.at, List.set_cons_zero, List.set_cons_succ, List.getD_cons_zero, List.getD_cons_succ, freezeL, resVs, oneOr, Option.map_some, Option.map_none, List.map_cons, List.map_nil, if_true, if_false, Bool.not_true, Bool.not_false, Bool.false_eq_true, reduceIte, decide_true, decide_false, Int.reduceLT, Int.reduceLE, Int.reduceGT, Int.reduceGE, Int.reduceEq, Int.reduceBEq, Int.reduceBNe, load_ptr, ldV_some, cellAt_cells, List.getElem?_cons_zero, List.getElem?_cons_succ, store_ptr, stO_some, setAt_0, setAt_1, setAt_2, setAt_3, setAt_4, setAt_5, setAt_6, setAt_7, setAt_8, setAt_9, setAt_10, setAt_11, setAt_12, cells_int, cells_bool, cells_str, cells_nils, cells_nilp, cells_ptr, cells_sl, cells_u8, cells_u16, cells_agg, get_upd_is, Option.isSome_some, upd_upd, ev1_nchkV, ev1_faV, nchkV_ptr, faV_ptr, ev1_extV, extV_tup, eqptr_nil, eqptr_ptr, Nat.zero_add, Nat.add_zero, qPL0, qPL1, qPL2, qPL3, qPL4, qPL5, beq_self_eq_true]
theorem body_pure : PureOk (evT 1000) 34 hBody := pureOk_of (by
  intro args s v h
  unfold hBody at h
  split at h
  · rename_i i
    split at h
    · rename_i hi
      cases h
      refine ⟨rfl, rfl, ?_⟩
      have := body_val i.toNat St.nil
      rw [Int.toNat_of_nonneg hi] at this
      exact this
    · cases h
  · cases h)
def lstB (f : Nat) : Option (List AV → St → Option AV) := if f = 21 then some hTrue else if f = 22 then some hAdd else if f = 34 then some hBody else none
theorem some_of {P : Prop} [Decidable P] {α : Type} {a : α} {x : Option α} {y : α} (h : (if P then some a else x) = some y) : (P ∧ a = y) ∨ x = some y := by
  split at h
  · rename_i hp; cases h; exact .inl ⟨hp, rfl⟩
  · exact .inr h
noncomputable def extB := extWith ext lstB
theorem extB_ok : ∀ w0, ExtOk Tryd.prog tabGl w0 extB := extOk_add (tableOf_ok _) mixed tab_flat (fun w0 => extOk _ w0) lstB (by
  intro f h hf
  unfold lstB at hf
  rcases some_of hf with ⟨rfl, rfl⟩ | hf
  · exact ⟨by kernel_rfl, 999, begun_pure⟩
  rcases some_of hf with ⟨rfl, rfl⟩ | hf
  · exact ⟨by rw [tab22]; rfl, 1000, add_pure⟩
  rcases some_of hf with ⟨rfl, rfl⟩ | hf
  · exact ⟨by rw [tab34]; rfl, 1000, body_pure⟩
  cases hf)
noncomputable def evB : Nat → Calls' := evF tabGl (tableOf Tryd.prog) extB
theorem evB_ok (w0 : World) (k : Nat) : CallOk Tryd.prog tabGl w0 (evB k) := evF_sound (tableOf_ok _) (extB_ok w0) mixed k
theorem evB_in {k f : Nat} {m : MFun} (hx : extB f = none) (hF : tableOf Tryd.prog f = some m) (args : List AV) (s : St) :
    evB (k + 1) f args s = outR m.res (evC tabGl (evB k) k m.body (env0 m.ntmps args) s) := evF_in hx hF args s
theorem b21 (k : Nat) (s : St) : evB (k + 1) 21 [] s = some (.bool true, s) := evF_ext (H := hTrue) rfl rfl
theorem b22 (k : Nat) (a b : Int) (s : St) : evB (k + 1) 22 [.int .i64 a, .int .i64 b] s = some (.int .i64 ((a + b) % 8), s) := evF_ext (H := hAdd) rfl rfl
theorem b34 (k : Nat) (i : Nat) (s : St) : evB (k + 1) 34 [.int .i64 (i : Int)] s = some (.str (bd i), s) := evF_ext (H := hBody) rfl (by
  simp only [List.map_cons, List.map_nil, dry1_int, hBody]; rw [if_pos (by omega)]; simp)
/-! in.In -/
theorem take_ev (k : Nat) (s : St) (nx : Int) (od : Bool) (ns : Int) (body : List UInt8) :
    evB (k + 2) 28 [.ptr s.next 0, .int .i64 ns, .str body] (s.pl [.cells 0 [.int .i64 nx, .bool od]]) =
      if ns = nx then some (.tup [.str body, .bool true], s.pl [.cells 0 [.int .i64 ((nx + 1) % 8), .bool false]]) else some (.tup [.str [], .bool false], s.pl [.cells 0 [.int .i64 nx, .bool true]]) := by
  rw [show k + 2 = (k + 1) + 1 from rfl, evB_in rfl tab28]
  have h22 := b22 k nx 1
  by_cases h : ns = nx
  · subst h
    have hn : ((ns : Int) != ns) = false := by simp
    rw [if_pos rfl]
    simp only [M28, h22, hn, ev1_eqv, eqptr_ptr, qES0, qES1, qES2, env0, List.length_cons, List.length_nil, Nat.reduceAdd, Nat.reduceSub, List.replicate, List.cons_append, List.nil_append, opd, Env.put, Env.at, List.set_cons_zero, List.set_cons_succ, List.getD_cons_zero, List.getD_cons_succ, freezeL, resVs, oneOr, Option.map_some, Option.map_none, List.map_cons, List.map_nil, if_true, if_false, Bool.not_true, Bool.not_false, Bool.false_eq_true, reduceIte, decide_true, decide_false, Int.reduceLT, Int.reduceLE, Int.reduceGT, Int.reduceGE, Int.reduceEq, Int.reduceBEq, Int.reduceBNe, load_ptr, ldV_some, cellAt_cells, List.getElem?_cons_zero, List.getElem?_cons_succ, store_ptr, stO_some, setAt_0, setAt_1, setAt_2, setAt_3, setAt_4, setAt_5, setAt_6, setAt_7, setAt_8, setAt_9, setAt_10, setAt_11, setAt_12, cells_int, cells_bool, cells_str, cells_nils, cells_nilp, cells_ptr, cells_sl, cells_u8, cells_u16, cells_agg, get_upd_is, Option.isSome_some, upd_upd, ev1_nchkV, ev1_faV, nchkV_ptr, faV_ptr, ev1_extV, extV_tup, eqptr_nil, eqptr_ptr, Nat.zero_add, Nat.add_zero, qPL0, qPL1, qPL2, qPL3, qPL4, qPL5, beq_self_eq_true]
  · have hn : ((ns : Int) != nx) = true := by simp [h]
    rw [if_neg h]
    simp only [M28, h22, hn, ev1_eqv, eqptr_ptr, qES0, qES1, qES2, env0, List.length_cons, List.length_nil, Nat.reduceAdd, Nat.reduceSub, List.replicate, List.cons_append, List.nil_append, opd, Env.put, Env.at, List.set_cons_zero, List.set_cons_succ, List.getD_cons_zero, List.getD_cons_succ, freezeL, resVs, oneOr, Option.map_some, Option.map_none, List.map_cons, List.map_nil, if_true, if_false, Bool.not_true, Bool.not_false, Bool.false_eq_true, reduceIte, decide_true, decide_false, Int.reduceLT, Int.reduceLE, Int.reduceGT, Int.reduceGE, Int.reduceEq, Int.reduceBEq, Int.reduceBNe, load_ptr, ldV_some, cellAt_cells, List.getElem?_cons_zero, List.getElem?_cons_succ, store_ptr, stO_some, setAt_0, setAt_1, setAt_2, setAt_3, setAt_4, setAt_5, setAt_6, setAt_7, setAt_8, setAt_9, setAt_10, setAt_11, setAt_12, cells_int, cells_bool, cells_str, cells_nils, cells_nilp, cells_ptr, cells_sl, cells_u8, cells_u16, cells_agg, get_upd_is, Option.isSome_some, upd_upd, ev1_nchkV, ev1_faV, nchkV_ptr, faV_ptr, ev1_extV, extV_tup, eqptr_nil, eqptr_ptr, Nat.zero_add, Nat.add_zero, qPL0, qPL1, qPL2, qPL3, qPL4, qPL5, beq_self_eq_true]
theorem next_ev (k : Nat) (s : St) (nx : Int) (od : Bool) : evB (k + 1) 30 [.ptr s.next 0] (s.pl [.cells 0 [.int .i64 nx, .bool od]]) = some (.int .i64 nx, s.pl [.cells 0 [.int .i64 nx, .bool od]]) := by
  rw [evB_in rfl tab30]
  simp only [M30, ev1_eqv, eqptr_ptr, qES0, qES1, qES2, env0, List.length_cons, List.length_nil, Nat.reduceAdd, Nat.reduceSub, List.replicate, List.cons_append, List.nil_append, opd, Env.put, Env.at, List.set_cons_zero, List.set_cons_succ, List.getD_cons_zero, List.getD_cons_succ, freezeL, resVs, oneOr, Option.map_some, Option.map_none, List.map_cons, List.map_nil, if_true, if_false, Bool.not_true, Bool.not_false, Bool.false_eq_true, reduceIte, decide_true, decide_false, Int.reduceLT, Int.reduceLE, Int.reduceGT, Int.reduceGE, Int.reduceEq, Int.reduceBEq, Int.reduceBNe, load_ptr, ldV_some, cellAt_cells, List.getElem?_cons_zero, List.getElem?_cons_succ, store_ptr, stO_some, setAt_0, setAt_1, setAt_2, setAt_3, setAt_4, setAt_5, setAt_6, setAt_7, setAt_8, setAt_9, setAt_10, setAt_11, setAt_12, cells_int, cells_bool, cells_str, cells_nils, cells_nilp, cells_ptr, cells_sl, cells_u8, cells_u16, cells_agg, get_upd_is, Option.isSome_some, upd_upd, ev1_nchkV, ev1_faV, nchkV_ptr, faV_ptr, ev1_extV, extV_tup, eqptr_nil, eqptr_ptr, Nat.zero_add, Nat.add_zero, qPL0, qPL1, qPL2, qPL3, qPL4, qPL5, beq_self_eq_true]
theorem odd_ev (k : Nat) (s : St) (nx : Int) (od : Bool) : evB (k + 1) 31 [.ptr s.next 0] (s.pl [.cells 0 [.int .i64 nx, .bool od]]) = some (.bool od, s.pl [.cells 0 [.int .i64 nx, .bool od]]) := by
  rw [evB_in rfl tab31]
  simp only [M31, ev1_eqv, eqptr_ptr, qES0, qES1, qES2, env0, List.length_cons, List.length_nil, Nat.reduceAdd, Nat.reduceSub, List.replicate, List.cons_append, List.nil_append, opd, Env.put, Env.at, List.set_cons_zero, List.set_cons_succ, List.getD_cons_zero, List.getD_cons_succ, freezeL, resVs, oneOr, Option.map_some, Option.map_none, List.map_cons, List.map_nil, if_true, if_false, Bool.not_true, Bool.not_false, Bool.false_eq_true, reduceIte, decide_true, decide_false, Int.reduceLT, Int.reduceLE, Int.reduceGT, Int.reduceGE, Int.reduceEq, Int.reduceBEq, Int.reduceBNe, load_ptr, ldV_some, cellAt_cells, List.getElem?_cons_zero, List.getElem?_cons_succ, store_ptr, stO_some, setAt_0, setAt_1, setAt_2, setAt_3, setAt_4, setAt_5, setAt_6, setAt_7, setAt_8, setAt_9, setAt_10, setAt_11, setAt_12, cells_int, cells_bool, cells_str, cells_nils, cells_nilp, cells_ptr, cells_sl, cells_u8, cells_u16, cells_agg, get_upd_is, Option.isSome_some, upd_upd, ev1_nchkV, ev1_faV, nchkV_ptr, faV_ptr, ev1_extV, extV_tup, eqptr_nil, eqptr_ptr, Nat.zero_add, Nat.add_zero, qPL0, qPL1, qPL2, qPL3, qPL4, qPL5, beq_self_eq_true]
theorem new_ev (k : Nat) (s : St) : evB (k + 1) 27 [] (s.pl []) = some (.ptr s.next 0, s.pl [.cells 0 [.int .i64 0, .bool false]]) := by
  rw [evB_in rfl tab27]
  simp only [M27, qES0, qES1, qES2, env0, List.length_cons, List.length_nil, Nat.reduceAdd, Nat.reduceSub, List.replicate, List.cons_append, List.nil_append, opd, Env.put, Env.at, List.set_cons_zero, List.set_cons_succ, List.getD_cons_zero, List.getD_cons_succ, freezeL, resVs, oneOr, Option.map_some, Option.map_none, List.map_cons, List.map_nil, if_true, if_false, Bool.not_true, Bool.not_false, Bool.false_eq_true, reduceIte, decide_true, decide_false, Int.reduceLT, Int.reduceLE, Int.reduceGT, Int.reduceGE, Int.reduceEq, Int.reduceBEq, Int.reduceBNe, load_ptr, ldV_some, cellAt_cells, List.getElem?_cons_zero, List.getElem?_cons_succ, store_ptr, stO_some, setAt_0, setAt_1, setAt_2, setAt_3, setAt_4, setAt_5, setAt_6, setAt_7, setAt_8, setAt_9, setAt_10, setAt_11, setAt_12, cells_int, cells_bool, cells_str, cells_nils, cells_nilp, cells_ptr, cells_sl, cells_u8, cells_u16, cells_agg, get_upd_is, Option.isSome_some, upd_upd, ev1_nchkV, ev1_faV, nchkV_ptr, faV_ptr, ev1_extV, extV_tup, eqptr_nil, eqptr_ptr, Nat.zero_add, Nat.add_zero, qPL0, qPL1, qPL2, qPL3, qPL4, qPL5, beq_self_eq_true]
end Go.Proofs.YtochnineebgbgaaDoor
