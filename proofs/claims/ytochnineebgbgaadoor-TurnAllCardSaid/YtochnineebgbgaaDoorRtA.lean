/- Slice literals that are made but to become a text. No conditions. -/
import Derived.Test.YtochnineebgbgaaDoorSet
import Derived.Test.YtochnineebgbgaaDoorSay
import Derived.Test.YtochnineebgbgaaDoorM12h
set_option linter.unusedSimpArgs false
namespace Go.Ab
open Go
theorem az_bsi (d : Option Nat) (g : Option (Nat × Bool)) {n l z p} : allocZ ⟨d, .bsi n l z p, g⟩ = none := (id rfl)
theorem bk_bsi (gl : Nat → AV) (e : Env) {n l z p} : blockOf gl e (.bsi n l z p) = 0 := (id rfl)
def bsiR (n : Nat) (s : St) : Option (List AV) → Option (AV × St × Nat)
  | some cs => some (.sl cs n none, s, 0)
  | none => none
theorem bsiR_sl (n : Nat) (s : St) (cs : List AV) : bsiR n s (some cs) = some (.sl cs n none, s, 0) := (id rfl)
theorem ev1_bsiR (gl : Nat → AV) (call : Calls') (e : Env) (s : St) (m n : Nat) (z : List AV) (ps : List (Nat × Nat × Opd)) : ev1 gl call e s (.bsi m n z ps) = bsiR n s (fill gl e z ps) := by
  simp only [ev1, evP, evR, evW]
  cases fill gl e z ps <;> rfl
end Go.Ab
/- glowwormref12's Out and Turn: new ones, Put, Late, Swap. No conditions. -/
set_option linter.unusedSimpArgs false
set_option linter.unusedVariables false
set_option maxRecDepth 100000
set_option maxHeartbeats 4000000
namespace Go.Proofs.YtochnineebgbgaaDoor
open Go Go.Ab
theorem rmodO (k : Nat) (a : Int) (s : St) : evO (k + 1) 23 [.int .i64 a] s = some (.int .i64 (a % 8), s) := by
  rw [evO_in rfl tab23]
  have r1 := i64_rem a 8 (by omega)
  obtain ⟨q, h1, h2, h3, _⟩ := tm8 a
  have w1 : IntKind.i64.wrap (a.tmod 8 + 8) = a.tmod 8 + 8 := wrapI _ (by omega) (by omega)
  have r2 := i64_rem (a.tmod 8 + 8) 8 (by omega)
  rw [mod8] at r2
  simp only [M23, r1, r2, w1, qES0, qES1, qES2, env0, List.length_cons, List.length_nil, Nat.reduceAdd, Nat.reduceSub, List.replicate, List.cons_append, List.nil_append, opd, Env.put, Env.at, List.set_cons_zero, List.set_cons_succ, List.getD_cons_zero, List.getD_cons_succ, freezeL, resVs, oneOr, Option.map_some, Option.map_none, List.map_cons, List.map_nil, if_true, if_false, Bool.not_true, Bool.not_false, Bool.false_eq_true, reduceIte, decide_true, decide_false, Int.reduceLT, Int.reduceLE, Int.reduceGT, Int.reduceGE, Int.reduceEq, Int.reduceBEq, Int.reduceBNe, load_ptr, ldV_some, cellAt_cells, List.getElem?_cons_zero, List.getElem?_cons_succ, store_ptr, stO_some, setAt_0, setAt_1, setAt_2, setAt_3, setAt_4, setAt_5, setAt_6, setAt_7, setAt_8, setAt_9, setAt_10, setAt_11, setAt_12, cells_int, cells_bool, cells_str, cells_nils, cells_nilp, cells_ptr, cells_sl, cells_u8, cells_u16, cells_agg, get_upd_is, Option.isSome_some, upd_upd, ev1_nchkV, ev1_faV, nchkV_ptr, faV_ptr, ev1_extV, extV_tup, eqptr_nil, eqptr_ptr, Nat.zero_add, Nat.add_zero, qPL0, qPL1, qPL2, qPL3, qPL4, qPL5, beq_self_eq_true]
/-- The ticket of the list that the reference's Out holds. -/
def ownR (s : St) (o j : Nat) : Prop := ∃ W f cs n v z st, s.get o = some (.cells 0 [W, f, .sl cs n (some (j, v, z)), st])
def ROut (s : St) (b : Nat) (W : Nat) (L : List (List UInt8)) (f : Int) (st : Nat) : Prop :=
  b < s.next ∧ ∃ lv, s.get b = some (.cells 0 [.int .i64 (W : Nat), .int .i64 f, lv, .int .i64 ((st : Nat) : Int)]) ∧ LAt s b lv L
theorem ROut.lt {s : St} {b W st : Nat} {L : List (List UInt8)} {f : Int} (h : ROut s b W L f st) {j : Nat} (hj : j = b ∨ ownR s b j) : j < s.next := by
  obtain ⟨h1, lv, h2, h3⟩ := h
  rcases hj with rfl | ⟨W', f', cs', n, v, z', st', hj⟩
  · exact h1
  · rw [h2] at hj
    cases hj
    rcases h3 with ⟨hx, _⟩ | ⟨tk, v', hx, _, _, ht⟩
    · cases hx
    · cases hx; exact ht
theorem ROut.keep {s s' : St} {b W st : Nat} {L : List (List UInt8)} {f : Int} (h : ROut s b W L f st) (hn : s.next ≤ s'.next) (hs : ∀ j, (j = b ∨ ownR s b j) → s'.get j = s.get j) : ROut s' b W L f st ∧ ∀ j, (j = b ∨ ownR s' b j) → (j = b ∨ ownR s b j) := by
  obtain ⟨h1, lv, h2, h3⟩ := h
  have e2 := hs b (.inl rfl)
  refine ⟨⟨by omega, lv, by rw [e2]; exact h2, ?_⟩, ?_⟩
  · rcases h3 with hx | ⟨tk, v', hx, ht, hne, hlt⟩
    · exact .inl hx
    · refine .inr ⟨tk, v', hx, ?_, hne, by omega⟩
      rw [hs tk (.inr ⟨_, _, _, _, _, _, _, by rw [h2, hx]⟩)]
      exact ht
  · rintro j (rfl | ⟨W', f', cs', n, v, z', st', hj⟩)
    · exact .inl rfl
    · rw [e2] at hj
      exact .inr ⟨W', f', cs', n, v, z', st', hj⟩
def routPart (b W : Nat) (L : List (List UInt8)) (f : Int) (st : Nat) : Part where
  P s := ROut s b W L f st
  F s j := j = b ∨ ownR s b j
  lt s h j hj := h.lt hj
  keep s s' h hn hs := h.keep hn hs
theorem ROut.fp {s : St} {b W st : Nat} {L : List (List UInt8)} {f : Int} (h : ROut s b W L f st) (hw : ∀ j, s.next ≤ j → s.get j = none) : Fp (fun j => s.next ≤ j ∨ (j = b ∨ ownR s b j)) s s := by
  obtain ⟨h1, lv, h2, h3⟩ := h
  refine ⟨Nat.le_refl _, fun j hj => .inl hj, ?_, ?_, fun j _ => rfl, hw⟩
  · rintro j z cs (hj | rfl | hj) hg
    · rw [hw j hj] at hg; cases hg
    · have h2' := h2
      rw [h2] at hg; cases hg
      refine ⟨trivial, trivial, ?_, trivial, trivial⟩
      rcases h3 with ⟨rfl, _⟩ | ⟨tk, v, rfl, _⟩
      · trivial
      · exact ⟨strs_in _ _, .inr (.inr ⟨_, _, _, _, _, _, _, h2'⟩)⟩
    · obtain ⟨W', f', cs', n, v, z', st', hj⟩ := hj
      rw [h2] at hj
      cases hj
      rcases h3 with ⟨hx, _⟩ | ⟨tk, v', hx, ht, _⟩
      · cases hx
      · cases hx
        rw [ht] at hg; cases hg
  · rintro j z cs (hj | rfl | hj) hg
    · rw [hw j hj] at hg; cases hg
    · rw [h2] at hg; cases hg
    · obtain ⟨W', f', cs', n, v, z', st', hj⟩ := hj
      rw [h2] at hj
      cases hj
      rcases h3 with ⟨hx, _⟩ | ⟨tk, v', hx, ht, _⟩
      · cases hx
      · cases hx
        rw [ht] at hg; cases hg
section
variable {s s' : St} {l : List Part} {w wo W : Nat} {sz : Int} {T : Tn}
theorem Apart.routStep {b st st' : Nat} {L L' : List (List UInt8)} {f f' : Int} (h : Apart s (routPart b W L f st :: l)) {k g : Nat} {args : List AV} {v : AV} (he : evO k g args s = some (v, s')) (hg : ∀ C : Nat → Prop, C b → inL C args) (hA : ROut s' b W L' f' st') : Apart s' (routPart b W L' f' st' :: l) :=
  (h.step he (hg _ (.inr (.inl rfl))) (ROut.fp h.head h.wf) hA fun hf j hj => by
    rcases hj with rfl | ⟨W', f', cs', n, u, z', st'', hj⟩
    · exact .inr (.inl rfl)
    · exact (hf.cells b 0 _ (.inr (.inl rfl)) hj).2.2.1.2).1
def wC (T : Tn) (sz : Int) (wo : Nat) : Ab.Obj := .cells 0 [.int .i64 T.role, .int .i64 sz, .bool T.mine, .ptr wo 0, .int .i64 T.nx, .bool T.od]
/-- The reference's turn, as two objects. -/
def RT (s : St) (w wo : Nat) (sz : Int) (W : Nat) (T : Tn) (l : List Part) : Prop := Apart s (cellPart w (wC T sz wo) :: routPart wo W T.L T.f T.st :: l)
theorem RT.get (h : RT s w wo sz W T l) : s.get w = some (wC T sz wo) := (Apart.head h).1
theorem RT.out (h : RT s w wo sz W T l) : Apart s (routPart wo W T.L T.f T.st :: cellPart w (wC T sz wo) :: l) := Apart.swap h
/-- Cells of its own are turned. -/
theorem RT.set (h : RT s w wo sz W T l) (T' : Tn) (h1 : T'.L = T.L) (h2 : T'.f = T.f) (h3 : T'.st = T.st) : RT (s.upd w (wC T' sz wo)) w wo sz W T' l := by
  unfold RT
  rw [h1, h2, h3]
  exact Apart.upd h _
theorem r56 (k : Nat) (h : RT s w wo sz W T l) (hr : T.role = 1 ∨ T.role = 2) : ∃ s', evO (k + 1) 56 [.ptr w 0] s = some (.bool (!T.mine && T.role == 1), s') ∧ RT s' w wo sz W T.late l := by
  have g := h.get
  rw [evO_in rfl tab56]
  have n1 : ((1 : Int) != 1) = false := rfl
  have n2 : ((2 : Int) != 1) = true := rfl
  have n3 : ((1 : Int) == 1) = true := rfl
  have n4 : ((2 : Int) == 1) = false := rfl
  have hs := h.set T.late rfl rfl rfl
  have e0 : T.late = T ∨ (T.role = 1 ∧ T.mine = false) := by
    rcases hr with hr | hr <;> cases hm : T.mine
    · exact .inr ⟨hr, rfl⟩
    · left; cases T; simp_all [Tn.late]
    · left; cases T; simp_all [Tn.late]
    · left; cases T; simp_all [Tn.late]
  unfold wC at g
  rcases e0 with e0 | ⟨e1, e2⟩
  · rw [e0]
    refine ⟨s, ?_, h⟩
    rcases hr with hr | hr <;> cases hm : T.mine <;> rw [hr, hm] at g
    · exfalso
      have := congrArg Tn.mine e0
      simp [Tn.late, hr, hm] at this
    · simp only [M56, g, hr, n1, n2, n3, n4, ev1_eqv, eqptr_ptr, qES0, qES1, qES2, env0, List.length_cons, List.length_nil, Nat.reduceAdd, Nat.reduceSub, List.replicate, List.cons_append, List.nil_append, opd, Env.put, Env.at, List.set_cons_zero, List.set_cons_succ, List.getD_cons_zero, List.getD_cons_succ, freezeL, resVs, oneOr, Option.map_some, Option.map_none, List.map_cons, List.map_nil, if_true, if_false, Bool.not_true, Bool.not_false, Bool.false_eq_true, reduceIte, decide_true, decide_false, Int.reduceLT, Int.reduceLE, Int.reduceGT, Int.reduceGE, Int.reduceEq, Int.reduceBEq, Int.reduceBNe, load_ptr, ldV_some, cellAt_cells, List.getElem?_cons_zero, List.getElem?_cons_succ, store_ptr, stO_some, setAt_0, setAt_1, setAt_2, setAt_3, setAt_4, setAt_5, setAt_6, setAt_7, setAt_8, setAt_9, setAt_10, setAt_11, setAt_12, cells_int, cells_bool, cells_str, cells_nils, cells_nilp, cells_ptr, cells_sl, cells_u8, cells_u16, cells_agg, get_upd_is, Option.isSome_some, upd_upd, ev1_nchkV, ev1_faV, nchkV_ptr, faV_ptr, ev1_extV, extV_tup, eqptr_nil, eqptr_ptr, Nat.zero_add, Nat.add_zero, qPL0, qPL1, qPL2, qPL3, qPL4, qPL5, beq_self_eq_true, Bool.not_true, Bool.false_and]
    · simp only [M56, g, hr, n1, n2, n3, n4, ev1_eqv, eqptr_ptr, qES0, qES1, qES2, env0, List.length_cons, List.length_nil, Nat.reduceAdd, Nat.reduceSub, List.replicate, List.cons_append, List.nil_append, opd, Env.put, Env.at, List.set_cons_zero, List.set_cons_succ, List.getD_cons_zero, List.getD_cons_succ, freezeL, resVs, oneOr, Option.map_some, Option.map_none, List.map_cons, List.map_nil, if_true, if_false, Bool.not_true, Bool.not_false, Bool.false_eq_true, reduceIte, decide_true, decide_false, Int.reduceLT, Int.reduceLE, Int.reduceGT, Int.reduceGE, Int.reduceEq, Int.reduceBEq, Int.reduceBNe, load_ptr, ldV_some, cellAt_cells, List.getElem?_cons_zero, List.getElem?_cons_succ, store_ptr, stO_some, setAt_0, setAt_1, setAt_2, setAt_3, setAt_4, setAt_5, setAt_6, setAt_7, setAt_8, setAt_9, setAt_10, setAt_11, setAt_12, cells_int, cells_bool, cells_str, cells_nils, cells_nilp, cells_ptr, cells_sl, cells_u8, cells_u16, cells_agg, get_upd_is, Option.isSome_some, upd_upd, ev1_nchkV, ev1_faV, nchkV_ptr, faV_ptr, ev1_extV, extV_tup, eqptr_nil, eqptr_ptr, Nat.zero_add, Nat.add_zero, qPL0, qPL1, qPL2, qPL3, qPL4, qPL5, beq_self_eq_true, Bool.and_false]
    · simp only [M56, g, hr, n1, n2, n3, n4, ev1_eqv, eqptr_ptr, qES0, qES1, qES2, env0, List.length_cons, List.length_nil, Nat.reduceAdd, Nat.reduceSub, List.replicate, List.cons_append, List.nil_append, opd, Env.put, Env.at, List.set_cons_zero, List.set_cons_succ, List.getD_cons_zero, List.getD_cons_succ, freezeL, resVs, oneOr, Option.map_some, Option.map_none, List.map_cons, List.map_nil, if_true, if_false, Bool.not_true, Bool.not_false, Bool.false_eq_true, reduceIte, decide_true, decide_false, Int.reduceLT, Int.reduceLE, Int.reduceGT, Int.reduceGE, Int.reduceEq, Int.reduceBEq, Int.reduceBNe, load_ptr, ldV_some, cellAt_cells, List.getElem?_cons_zero, List.getElem?_cons_succ, store_ptr, stO_some, setAt_0, setAt_1, setAt_2, setAt_3, setAt_4, setAt_5, setAt_6, setAt_7, setAt_8, setAt_9, setAt_10, setAt_11, setAt_12, cells_int, cells_bool, cells_str, cells_nils, cells_nilp, cells_ptr, cells_sl, cells_u8, cells_u16, cells_agg, get_upd_is, Option.isSome_some, upd_upd, ev1_nchkV, ev1_faV, nchkV_ptr, faV_ptr, ev1_extV, extV_tup, eqptr_nil, eqptr_ptr, Nat.zero_add, Nat.add_zero, qPL0, qPL1, qPL2, qPL3, qPL4, qPL5, beq_self_eq_true, Bool.not_true, Bool.false_and]
  · refine ⟨_, ?_, hs⟩
    unfold wC
    simp only [Tn.late, e1, e2]
    rw [e1, e2] at g
    simp only [M56, g, n1, n2, n3, n4, ev1_eqv, eqptr_ptr, qES0, qES1, qES2, env0, List.length_cons, List.length_nil, Nat.reduceAdd, Nat.reduceSub, List.replicate, List.cons_append, List.nil_append, opd, Env.put, Env.at, List.set_cons_zero, List.set_cons_succ, List.getD_cons_zero, List.getD_cons_succ, freezeL, resVs, oneOr, Option.map_some, Option.map_none, List.map_cons, List.map_nil, if_true, if_false, Bool.not_true, Bool.not_false, Bool.false_eq_true, reduceIte, decide_true, decide_false, Int.reduceLT, Int.reduceLE, Int.reduceGT, Int.reduceGE, Int.reduceEq, Int.reduceBEq, Int.reduceBNe, load_ptr, ldV_some, cellAt_cells, List.getElem?_cons_zero, List.getElem?_cons_succ, store_ptr, stO_some, setAt_0, setAt_1, setAt_2, setAt_3, setAt_4, setAt_5, setAt_6, setAt_7, setAt_8, setAt_9, setAt_10, setAt_11, setAt_12, cells_int, cells_bool, cells_str, cells_nils, cells_nilp, cells_ptr, cells_sl, cells_u8, cells_u16, cells_agg, get_upd_is, Option.isSome_some, upd_upd, ev1_nchkV, ev1_faV, nchkV_ptr, faV_ptr, ev1_extV, extV_tup, eqptr_nil, eqptr_ptr, Nat.zero_add, Nat.add_zero, qPL0, qPL1, qPL2, qPL3, qPL4, qPL5, beq_self_eq_true, Bool.not_false, Bool.true_and, Bool.false_or]
theorem r58 (k : Nat) (h : RT s w wo sz W T l) (hr : T.role = 1 ∨ T.role = 2) : ∃ s', evO (k + 1) 58 [.ptr w 0] s = some (.tup [], s') ∧ RT s' w wo sz W T.swap l := by
  have g := h.get
  rw [evO_in rfl tab58]
  have n3 : ((1 : Int) == 1) = true := rfl
  have n4 : ((2 : Int) == 1) = false := rfl
  refine ⟨_, ?_, h.set T.swap rfl rfl rfl⟩
  unfold wC at g ⊢
  rcases hr with hr | hr <;> simp only [Tn.swap, hr] <;> rw [hr] at g <;> simp only [M58, g, n3, n4, ev1_eqv, eqptr_ptr, upd_upd, show (3 : Int) - 1 = 2 from rfl, show (3 : Int) - 2 = 1 from rfl, qES0, qES1, qES2, env0, List.length_cons, List.length_nil, Nat.reduceAdd, Nat.reduceSub, List.replicate, List.cons_append, List.nil_append, opd, Env.put, Env.at, List.set_cons_zero, List.set_cons_succ, List.getD_cons_zero, List.getD_cons_succ, freezeL, resVs, oneOr, Option.map_some, Option.map_none, List.map_cons, List.map_nil, if_true, if_false, Bool.not_true, Bool.not_false, Bool.false_eq_true, reduceIte, decide_true, decide_false, Int.reduceLT, Int.reduceLE, Int.reduceGT, Int.reduceGE, Int.reduceEq, Int.reduceBEq, Int.reduceBNe, load_ptr, ldV_some, cellAt_cells, List.getElem?_cons_zero, List.getElem?_cons_succ, store_ptr, stO_some, setAt_0, setAt_1, setAt_2, setAt_3, setAt_4, setAt_5, setAt_6, setAt_7, setAt_8, setAt_9, setAt_10, setAt_11, setAt_12, cells_int, cells_bool, cells_str, cells_nils, cells_nilp, cells_ptr, cells_sl, cells_u8, cells_u16, cells_agg, get_upd_is, Option.isSome_some, upd_upd, ev1_nchkV, ev1_faV, nchkV_ptr, faV_ptr, ev1_extV, extV_tup, eqptr_nil, eqptr_ptr, Nat.zero_add, Nat.add_zero, qPL0, qPL1, qPL2, qPL3, qPL4, qPL5, beq_self_eq_true]
theorem r64 (k : Nat) {b st : Nat} {L : List (List UInt8)} {f : Int} (x : List UInt8) (h : ROut s b W L f st) (hl : L.length < 8) :
    ∃ s', evO (k + 1) 64 [.ptr b 0, .str x] s = some (.int .i64 0, s') ∧ ROut s' b W (L ++ [x]) f st := by
  obtain ⟨hb, lv, hg, hL⟩ := h
  rw [evO_in rfl tab64]
  have q1 : (((L.length : Nat) : Int) ≥ 8) = False := eq_false (by omega)
  have ln := hL.len
  have f1 : fill1 [.str []] 0 1 (.str x) = some [.str x] := rfl
  have hg1 : (s.new (.tick 1 0)).get b = some (.cells 0 [.int .i64 (W : Nat), .int .i64 f, lv, .int .i64 (st : Nat)]) := by rw [get_new_ne _ _ (by omega)]; exact hg
  obtain ⟨lv', s2, ha, hg2, hL2, hn2⟩ : ∃ lv' s2, appV false 1 16 (s.new (.tick 1 0)) lv (.sl [.str x] 1 (some (s.next, 0, 1))) = some (lv', s2) ∧ s2.get b = some (.cells 0 [.int .i64 (W : Nat), .int .i64 f, lv, .int .i64 (st : Nat)]) ∧ LAt s2 b lv' (L ++ [x]) ∧ b < s2.next := by
    rcases hL with ⟨rfl, rfl⟩ | ⟨t, v, rfl, ht, hne, hlt⟩
    · refine ⟨.sl [.str x] 1 (some (s.next + 1, 0, 1)), (s.new (.tick 1 0)).new (.tick 1 0), rfl, ?_, .inr ⟨s.next + 1, 0, rfl, ?_, by omega, by simp [St.new]⟩, by simp [St.new]; omega⟩
      · rw [get_new_ne _ _ (by simp only [St.new]; omega)]; exact hg1
      · have := get_new_eq (s.new (.tick 1 0)) (.tick 1 0)
        simpa [St.new] using this
    · have ht1 : (s.new (.tick 1 0)).get t = some (.tick 1 v) := by rw [get_new_ne _ _ (by omega)]; exact ht
      refine ⟨.sl (L.map AV.str ++ [.str x]) (L.length + 1) (some (t, v + 1, 1)), (s.new (.tick 1 0)).upd t (.tick 1 (v + 1)), ?_, ?_, .inr ⟨t, v + 1, ?_, get_upd_eq _ _ ht1, hne, by simp [St.upd, St.new]; omega⟩, by simp [St.upd, St.new]; omega⟩
      · have hf : fits (L.length + 1) 16 = true := by simp [fits]; omega
        simp only [appV, newsOf, List.length_cons, List.length_nil, Nat.zero_add, Nat.mul_one, if_true, Bool.false_and, Bool.false_eq_true, if_false, appS, ht1]
        rw [if_pos (by simp [hf])]
      · rw [get_upd_ne _ _ (Ne.symm hne)]; exact hg1
      · simp
  have hc := hL2.cells
  refine ⟨s2.upd b (.cells 0 [.int .i64 (W : Nat), .int .i64 f, lv', .int .i64 (st : Nat)]), ?_, by simp [St.upd]; exact hn2, lv', get_upd_eq _ _ hg2, ?_⟩
  · have hst : storeV 1 s2 (.ptr b 2) lv' = some (.undef, s2.upd b (.cells 0 [.int .i64 (W : Nat), .int .i64 f, lv', .int .i64 (st : Nat)])) := by
      simp only [storeV, hg2, hc, storeL, fillL, List.length_cons, List.length_nil, Nat.zero_add, Nat.reduceAdd, if_true]
      simp
    simp only [M64, hg, hg1, ln, q1, f1, ha, hst, ev1_eqv, eqptr_ptr, qES0, qES1, qES2, env0, List.length_cons, List.length_nil, Nat.reduceAdd, Nat.reduceSub, List.replicate, List.cons_append, List.nil_append, opd, Env.put, Env.at, List.set_cons_zero, List.set_cons_succ, List.getD_cons_zero, List.getD_cons_succ, freezeL, resVs, oneOr, Option.map_some, Option.map_none, List.map_cons, List.map_nil, if_true, if_false, Bool.not_true, Bool.not_false, Bool.false_eq_true, reduceIte, decide_true, decide_false, Int.reduceLT, Int.reduceLE, Int.reduceGT, Int.reduceGE, Int.reduceEq, Int.reduceBEq, Int.reduceBNe, load_ptr, ldV_some, cellAt_cells, List.getElem?_cons_zero, List.getElem?_cons_succ, store_ptr, stO_some, setAt_0, setAt_1, setAt_2, setAt_3, setAt_4, setAt_5, setAt_6, setAt_7, setAt_8, setAt_9, setAt_10, setAt_11, setAt_12, cells_int, cells_bool, cells_str, cells_nils, cells_nilp, cells_ptr, cells_sl, cells_u8, cells_u16, cells_agg, get_upd_is, Option.isSome_some, upd_upd, ev1_nchkV, ev1_faV, nchkV_ptr, faV_ptr, ev1_extV, extV_tup, eqptr_nil, eqptr_ptr, Nat.zero_add, Nat.add_zero, qPL0, qPL1, qPL2, qPL3, qPL4, qPL5, beq_self_eq_true]
  · rcases hL2 with ⟨rfl, h⟩ | ⟨t, v, rfl, ht, hne, hlt⟩
    · exact .inl ⟨rfl, h⟩
    · exact .inr ⟨t, v, rfl, by rw [get_upd_ne _ _ hne]; exact ht, hne, by simp [St.upd]; exact hlt⟩
theorem r64F (k : Nat) {b st : Nat} {L : List (List UInt8)} {f : Int} (x : List UInt8) (h : ROut s b W L f st) (hl : 8 ≤ L.length) :
    evO (k + 1) 64 [.ptr b 0, .str x] s = some (.int .i64 3, s) := by
  obtain ⟨hb, lv, hg, hL⟩ := h
  rw [evO_in rfl tab64]
  have q1 : (((L.length : Nat) : Int) ≥ 8) = True := eq_true (by omega)
  have ln := hL.len
  simp only [M64, hg, ln, q1, ev1_eqv, eqptr_ptr, qES0, qES1, qES2, env0, List.length_cons, List.length_nil, Nat.reduceAdd, Nat.reduceSub, List.replicate, List.cons_append, List.nil_append, opd, Env.put, Env.at, List.set_cons_zero, List.set_cons_succ, List.getD_cons_zero, List.getD_cons_succ, freezeL, resVs, oneOr, Option.map_some, Option.map_none, List.map_cons, List.map_nil, if_true, if_false, Bool.not_true, Bool.not_false, Bool.false_eq_true, reduceIte, decide_true, decide_false, Int.reduceLT, Int.reduceLE, Int.reduceGT, Int.reduceGE, Int.reduceEq, Int.reduceBEq, Int.reduceBNe, load_ptr, ldV_some, cellAt_cells, List.getElem?_cons_zero, List.getElem?_cons_succ, store_ptr, stO_some, setAt_0, setAt_1, setAt_2, setAt_3, setAt_4, setAt_5, setAt_6, setAt_7, setAt_8, setAt_9, setAt_10, setAt_11, setAt_12, cells_int, cells_bool, cells_str, cells_nils, cells_nilp, cells_ptr, cells_sl, cells_u8, cells_u16, cells_agg, get_upd_is, Option.isSome_some, upd_upd, ev1_nchkV, ev1_faV, nchkV_ptr, faV_ptr, ev1_extV, extV_tup, eqptr_nil, eqptr_ptr, Nat.zero_add, Nat.add_zero, qPL0, qPL1, qPL2, qPL3, qPL4, qPL5, beq_self_eq_true]
/-- Put. -/
theorem r51 (k : Nat) (x : List UInt8) (h : RT s w wo sz W T l) (hl : T.L.length < 8) (hx : (x.length : Int) ≤ sz) : ∃ s', evO (k + 2) 51 [.ptr w 0, .str x] s = some (.int .i64 0, s') ∧ RT s' w wo sz W { T with L := T.L ++ [x] } l := by
  have g := h.get
  obtain ⟨s', p1, p2⟩ := r64 k x h.out.head hl
  have hh : ((x.length : Int) > sz) = False := eq_false (by omega)
  refine ⟨s', ?_, (h.out.routStep p1 (fun C hC => ⟨hC, trivial, trivial⟩) p2).swap⟩
  rw [show k + 2 = (k + 1) + 1 from rfl, evO_in rfl tab51]
  unfold wC at g
  simp only [M51, g, hh, p1, ev1_eqv, eqptr_ptr, qES0, qES1, qES2, env0, List.length_cons, List.length_nil, Nat.reduceAdd, Nat.reduceSub, List.replicate, List.cons_append, List.nil_append, opd, Env.put, Env.at, List.set_cons_zero, List.set_cons_succ, List.getD_cons_zero, List.getD_cons_succ, freezeL, resVs, oneOr, Option.map_some, Option.map_none, List.map_cons, List.map_nil, if_true, if_false, Bool.not_true, Bool.not_false, Bool.false_eq_true, reduceIte, decide_true, decide_false, Int.reduceLT, Int.reduceLE, Int.reduceGT, Int.reduceGE, Int.reduceEq, Int.reduceBEq, Int.reduceBNe, load_ptr, ldV_some, cellAt_cells, List.getElem?_cons_zero, List.getElem?_cons_succ, store_ptr, stO_some, setAt_0, setAt_1, setAt_2, setAt_3, setAt_4, setAt_5, setAt_6, setAt_7, setAt_8, setAt_9, setAt_10, setAt_11, setAt_12, cells_int, cells_bool, cells_str, cells_nils, cells_nilp, cells_ptr, cells_sl, cells_u8, cells_u16, cells_agg, get_upd_is, Option.isSome_some, upd_upd, ev1_nchkV, ev1_faV, nchkV_ptr, faV_ptr, ev1_extV, extV_tup, eqptr_nil, eqptr_ptr, Nat.zero_add, Nat.add_zero, qPL0, qPL1, qPL2, qPL3, qPL4, qPL5, beq_self_eq_true]
theorem r51F (k : Nat) (x : List UInt8) (h : RT s w wo sz W T l) (hl : 8 ≤ T.L.length) (hx : (x.length : Int) ≤ sz) : evO (k + 2) 51 [.ptr w 0, .str x] s = some (.int .i64 3, s) := by
  have g := h.get
  have p1 := r64F k x h.out.head hl
  have hh : ((x.length : Int) > sz) = False := eq_false (by omega)
  rw [show k + 2 = (k + 1) + 1 from rfl, evO_in rfl tab51]
  unfold wC at g
  simp only [M51, g, hh, p1, ev1_eqv, eqptr_ptr, qES0, qES1, qES2, env0, List.length_cons, List.length_nil, Nat.reduceAdd, Nat.reduceSub, List.replicate, List.cons_append, List.nil_append, opd, Env.put, Env.at, List.set_cons_zero, List.set_cons_succ, List.getD_cons_zero, List.getD_cons_succ, freezeL, resVs, oneOr, Option.map_some, Option.map_none, List.map_cons, List.map_nil, if_true, if_false, Bool.not_true, Bool.not_false, Bool.false_eq_true, reduceIte, decide_true, decide_false, Int.reduceLT, Int.reduceLE, Int.reduceGT, Int.reduceGE, Int.reduceEq, Int.reduceBEq, Int.reduceBNe, load_ptr, ldV_some, cellAt_cells, List.getElem?_cons_zero, List.getElem?_cons_succ, store_ptr, stO_some, setAt_0, setAt_1, setAt_2, setAt_3, setAt_4, setAt_5, setAt_6, setAt_7, setAt_8, setAt_9, setAt_10, setAt_11, setAt_12, cells_int, cells_bool, cells_str, cells_nils, cells_nilp, cells_ptr, cells_sl, cells_u8, cells_u16, cells_agg, get_upd_is, Option.isSome_some, upd_upd, ev1_nchkV, ev1_faV, nchkV_ptr, faV_ptr, ev1_extV, extV_tup, eqptr_nil, eqptr_ptr, Nat.zero_add, Nat.add_zero, qPL0, qPL1, qPL2, qPL3, qPL4, qPL5, beq_self_eq_true]
theorem r51L (k : Nat) (x : List UInt8) (h : RT s w wo sz W T l) (hx : sz < (x.length : Int)) : evO (k + 2) 51 [.ptr w 0, .str x] s = some (.int .i64 1, s) := by
  have g := h.get
  have hh : ((x.length : Int) > sz) = True := eq_true (by omega)
  rw [show k + 2 = (k + 1) + 1 from rfl, evO_in rfl tab51]
  unfold wC at g
  simp only [M51, g, hh, ev1_eqv, eqptr_ptr, qES0, qES1, qES2, env0, List.length_cons, List.length_nil, Nat.reduceAdd, Nat.reduceSub, List.replicate, List.cons_append, List.nil_append, opd, Env.put, Env.at, List.set_cons_zero, List.set_cons_succ, List.getD_cons_zero, List.getD_cons_succ, freezeL, resVs, oneOr, Option.map_some, Option.map_none, List.map_cons, List.map_nil, if_true, if_false, Bool.not_true, Bool.not_false, Bool.false_eq_true, reduceIte, decide_true, decide_false, Int.reduceLT, Int.reduceLE, Int.reduceGT, Int.reduceGE, Int.reduceEq, Int.reduceBEq, Int.reduceBNe, load_ptr, ldV_some, cellAt_cells, List.getElem?_cons_zero, List.getElem?_cons_succ, store_ptr, stO_some, setAt_0, setAt_1, setAt_2, setAt_3, setAt_4, setAt_5, setAt_6, setAt_7, setAt_8, setAt_9, setAt_10, setAt_11, setAt_12, cells_int, cells_bool, cells_str, cells_nils, cells_nilp, cells_ptr, cells_sl, cells_u8, cells_u16, cells_agg, get_upd_is, Option.isSome_some, upd_upd, ev1_nchkV, ev1_faV, nchkV_ptr, faV_ptr, ev1_extV, extV_tup, eqptr_nil, eqptr_ptr, Nat.zero_add, Nat.add_zero, qPL0, qPL1, qPL2, qPL3, qPL4, qPL5, beq_self_eq_true]
theorem r63 (k : Nat) (win : Int) (s : St) : evO (k + 1) 63 [.int .i64 win] s = some (.ptr s.next 0, s.new (.cells 0 [.int .i64 (clampW win), .int .i64 0, .nils, .int .i64 0])) := by
  rw [evO_in rfl tab63]
  have e : ∀ a : Int, (if a > 1 then a else 1) = clampW win → fill1 [.int .i64 0, .int .i64 0, .nils, .int .i64 0] 0 1 (.int .i64 (if a > 1 then a else 1)) = some [.int .i64 (clampW win), .int .i64 0, .nils, .int .i64 0] := fun a ha => by rw [ha]; rfl
  have e2 : (if (if 7 < win then 7 else win) > 1 then (if 7 < win then 7 else win) else 1) = clampW win := by unfold clampW; repeat' split
                                                                                                              all_goals omega
  have e3 := e _ e2
  simp only [M63, e3, ev1_mx, ev1_mn, ev1_boxV, boxV_some, qES0, qES1, qES2, env0, List.length_cons, List.length_nil, Nat.reduceAdd, Nat.reduceSub, List.replicate, List.cons_append, List.nil_append, opd, Env.put, Env.at, List.set_cons_zero, List.set_cons_succ, List.getD_cons_zero, List.getD_cons_succ, freezeL, resVs, oneOr, Option.map_some, Option.map_none, List.map_cons, List.map_nil, if_true, if_false, Bool.not_true, Bool.not_false, Bool.false_eq_true, reduceIte, decide_true, decide_false, Int.reduceLT, Int.reduceLE, Int.reduceGT, Int.reduceGE, Int.reduceEq, Int.reduceBEq, Int.reduceBNe, load_ptr, ldV_some, cellAt_cells, List.getElem?_cons_zero, List.getElem?_cons_succ, store_ptr, stO_some, setAt_0, setAt_1, setAt_2, setAt_3, setAt_4, setAt_5, setAt_6, setAt_7, setAt_8, setAt_9, setAt_10, setAt_11, setAt_12, cells_int, cells_bool, cells_str, cells_nils, cells_nilp, cells_ptr, cells_sl, cells_u8, cells_u16, cells_agg, get_upd_is, Option.isSome_some, upd_upd, ev1_nchkV, ev1_faV, nchkV_ptr, faV_ptr, ev1_extV, extV_tup, eqptr_nil, eqptr_ptr, Nat.zero_add, Nat.add_zero, qPL0, qPL1, qPL2, qPL3, qPL4, qPL5, beq_self_eq_true]
theorem Apart.asRout {b : Nat} (h : Apart s (cellPart b (.cells 0 [.int .i64 (W : Nat), .int .i64 0, .nils, .int .i64 0]) :: l)) : Apart s (routPart b W [] 0 0 :: l) := by
  have hb := h.head
  refine h.turn (Nat.le_refl _) h.wf (fun _ _ _ => rfl) ⟨hb.2, .nils, hb.1, .inl ⟨rfl, rfl⟩⟩ (fun j hj => .inr ?_)
  rcases hj with rfl | ⟨W', f', cs', n, u, z', st'', hj⟩
  · rfl
  · rw [hb.1] at hj
    cases hj
/-- A new turn of the reference. -/
theorem Apart.newR (k : Nat) (h : Apart s l) (R : Int) (baud silent win size wait : Int) (hsz : (if 64 < size then 64 else size) = sz) (hW : clampW win = (W : Int)) :
    ∃ s' w wo, evO (k + 2) 50 [.int .i64 R, .agg [.int .i64 baud, .int .i64 silent, .int .i64 win, .int .i64 size, .int .i64 wait]] s = some (.ptr w 0, s') ∧ RT s' w wo sz W (tn0 R) l := by
  have A1 := h.new (.cells 0 [.int .i64 baud, .int .i64 silent, .int .i64 win, .int .i64 size, .int .i64 wait])
  have A2 := A1.new (.cells 0 [.int .i64 (W : Nat), .int .i64 0, .nils, .int .i64 0])
  have A3 := A2.new (wC (tn0 R) sz (s.next + 1))
  have A4 := A3.swap.asRout.swap
  have A5 := A4.third.tail
  have h63 := r63 k win
  rw [hW] at h63
  refine ⟨s.pl [.cells 0 [.int .i64 baud, .int .i64 silent, .int .i64 win, .int .i64 size, .int .i64 wait], .cells 0 [.int .i64 (W : Nat), .int .i64 0, .nils, .int .i64 0], wC (tn0 R) sz (s.next + 1)], s.next + 2, s.next + 1, ?_, A5⟩
  rw [show k + 2 = (k + 1) + 1 from rfl, evO_in rfl tab50]
  have f0 : fill1 [.int .i64 0, .int .i64 0, .bool false, .nilp, .int .i64 0, .bool false] 0 1 (.int .i64 R) = some [.int .i64 R, .int .i64 0, .bool false, .nilp, .int .i64 0, .bool false] := rfl
  have f1 : ∀ z, fill1 [.int .i64 R, .int .i64 0, .bool false, .nilp, .int .i64 0, .bool false] 1 1 (.int .i64 z) = some [.int .i64 R, .int .i64 z, .bool false, .nilp, .int .i64 0, .bool false] := fun z => rfl
  have f2 : ∀ z b, fill1 [.int .i64 R, .int .i64 z, .bool false, .nilp, .int .i64 0, .bool false] 2 1 (.bool b) = some [.int .i64 R, .int .i64 z, .bool b, .nilp, .int .i64 0, .bool false] := fun z b => rfl
  have f3 : ∀ z b p, fill1 [.int .i64 R, .int .i64 z, .bool b, .nilp, .int .i64 0, .bool false] 3 1 (.ptr p 0) = some [.int .i64 R, .int .i64 z, .bool b, .ptr p 0, .int .i64 0, .bool false] := fun z b p => rfl
  unfold wC tn0
  rw [show s = s.pl [] from rfl]
  simp only [M50, h63, hsz, f0, f1, f2, f3, ev1_mx, ev1_mn, ev1_boxV, boxV_some, qES0, qES1, qES2, env0, List.length_cons, List.length_nil, Nat.reduceAdd, Nat.reduceSub, List.replicate, List.cons_append, List.nil_append, opd, Env.put, Env.at, List.set_cons_zero, List.set_cons_succ, List.getD_cons_zero, List.getD_cons_succ, freezeL, resVs, oneOr, Option.map_some, Option.map_none, List.map_cons, List.map_nil, if_true, if_false, Bool.not_true, Bool.not_false, Bool.false_eq_true, reduceIte, decide_true, decide_false, Int.reduceLT, Int.reduceLE, Int.reduceGT, Int.reduceGE, Int.reduceEq, Int.reduceBEq, Int.reduceBNe, load_ptr, ldV_some, cellAt_cells, List.getElem?_cons_zero, List.getElem?_cons_succ, store_ptr, stO_some, setAt_0, setAt_1, setAt_2, setAt_3, setAt_4, setAt_5, setAt_6, setAt_7, setAt_8, setAt_9, setAt_10, setAt_11, setAt_12, cells_int, cells_bool, cells_str, cells_nils, cells_nilp, cells_ptr, cells_sl, cells_u8, cells_u16, cells_agg, get_upd_is, Option.isSome_some, upd_upd, ev1_nchkV, ev1_faV, nchkV_ptr, faV_ptr, ev1_extV, extV_tup, eqptr_nil, eqptr_ptr, Nat.zero_add, Nat.add_zero, qPL0, qPL1, qPL2, qPL3, qPL4, qPL5, beq_self_eq_true, qED0, qED1, placeR]
  rw [drawR_ok]; case h => simp (config := {decide := true}) [calm, calmPair, calmTwo, List.range, List.range.loop, sameO_refl, plg0, plg1, plg2, new_pl]
  simp only [ev1_boxV, boxV_some, qES0, qES1, qES2, env0, List.length_cons, List.length_nil, Nat.reduceAdd, Nat.reduceSub, List.replicate, List.cons_append, List.nil_append, opd, Env.put, Env.at, List.set_cons_zero, List.set_cons_succ, List.getD_cons_zero, List.getD_cons_succ, freezeL, resVs, oneOr, Option.map_some, Option.map_none, List.map_cons, List.map_nil, if_true, if_false, Bool.not_true, Bool.not_false, Bool.false_eq_true, reduceIte, decide_true, decide_false, Int.reduceLT, Int.reduceLE, Int.reduceGT, Int.reduceGE, Int.reduceEq, Int.reduceBEq, Int.reduceBNe, load_ptr, ldV_some, cellAt_cells, List.getElem?_cons_zero, List.getElem?_cons_succ, store_ptr, stO_some, setAt_0, setAt_1, setAt_2, setAt_3, setAt_4, setAt_5, setAt_6, setAt_7, setAt_8, setAt_9, setAt_10, setAt_11, setAt_12, cells_int, cells_bool, cells_str, cells_nils, cells_nilp, cells_ptr, cells_sl, cells_u8, cells_u16, cells_agg, get_upd_is, Option.isSome_some, upd_upd, ev1_nchkV, ev1_faV, nchkV_ptr, faV_ptr, ev1_extV, extV_tup, eqptr_nil, eqptr_ptr, Nat.zero_add, Nat.add_zero, qPL0, qPL1, qPL2, qPL3, qPL4, qPL5, beq_self_eq_true, qED0, qED1, placeR]
  rfl
end
end Go.Proofs.YtochnineebgbgaaDoor
/- glowwormref12's Out.Burst and Turn.Go. No conditions. -/
set_option linter.unusedSimpArgs false
set_option linter.unusedVariables false
set_option maxRecDepth 100000
set_option maxHeartbeats 8000000
namespace Go.Proofs.YtochnineebgbgaaDoor
open Go Go.Ab
/-- A list under way, its ticket behind n0. -/
def GrowAt (n0 : Nat) (S : St) (lv : AV) (xs : List AV) : Prop := (lv = .nils ∧ xs = []) ∨ ∃ t v, lv = .sl xs xs.length (some (t, v, 1)) ∧ S.get t = some (.tick 1 v) ∧ n0 ≤ t ∧ t < S.next
def tkOf (lv : AV) (j : Nat) : Prop := ∃ cs n v z, lv = .sl cs n (some (j, v, z))
theorem GrowAt.lt {n0 : Nat} {S : St} {lv : AV} {xs : List AV} (h : GrowAt n0 S lv xs) {j : Nat} (hj : tkOf lv j) : n0 ≤ j ∧ j < S.next := by
  obtain ⟨cs, n, v, z, rfl⟩ := hj
  rcases h with ⟨h, _⟩ | ⟨t, v', h, _, h1, h2⟩
  · cases h
  · cases h; exact ⟨h1, h2⟩
theorem GrowAt.mono {n0 : Nat} {S S' : St} {lv : AV} {xs : List AV} (h : GrowAt n0 S lv xs) (hn : S.next ≤ S'.next) (hs : ∀ j, tkOf lv j → S'.get j = S.get j) : GrowAt n0 S' lv xs := by
  rcases h with h | ⟨t, v', rfl, g, h1, h2⟩
  · exact .inl h
  · exact .inr ⟨t, v', rfl, (hs t ⟨_, _, _, _, rfl⟩).trans g, h1, by omega⟩
theorem grow_app {n0 by_ : Nat} (hby : by_ ≤ 100) {S : St} {lv : AV} {xs : List AV} (h : GrowAt n0 S lv xs) (hn : n0 ≤ S.next) (hl : xs.length < 100) (x : AV) :
    ∃ lv' S', appV false 1 by_ S lv (.sl [x] 1 none) = some (lv', S') ∧ GrowAt n0 S' lv' (xs ++ [x]) ∧ S.next ≤ S'.next ∧ (∀ j, j < S.next → ¬ tkOf lv j → S'.get j = S.get j) ∧ (∀ j, tkOf lv' j → tkOf lv j ∨ j = S.next) := by
  rcases h with ⟨rfl, rfl⟩ | ⟨t, v, rfl, ht, h1, h2⟩
  · have hf : fits 1 by_ = true := by simp [fits]; omega
    refine ⟨.sl [x] 1 (some (S.next, 0, 1)), S.new (.tick 1 0), ?_, .inr ⟨S.next, 0, rfl, get_new_eq _ _, hn, by simp [St.new]⟩, by simp [St.new], fun j hj _ => get_new_ne _ _ (by omega), ?_⟩
    · simp only [appV, newsOf, List.length_cons, List.length_nil, Nat.zero_add, Nat.mul_one, if_true, Bool.false_and, Bool.false_eq_true, if_false, appS, hf]
      simp
    · rintro j ⟨cs, n, v, z, e⟩
      cases e
      exact .inr rfl
  · have hf : fits (xs.length + 1) by_ = true := by
      have : (xs.length + 1) * by_ ≤ 100 * 100 := Nat.mul_le_mul (by omega) hby
      simp [fits]; omega
    refine ⟨.sl (xs ++ [x]) (xs.length + 1) (some (t, v + 1, 1)), S.upd t (.tick 1 (v + 1)), ?_, .inr ⟨t, v + 1, by simp, get_upd_eq _ _ ht, h1, h2⟩, Nat.le_refl _, fun j hj hn => get_upd_ne _ _ (fun e => by subst e; exact hn ⟨_, _, _, _, rfl⟩), ?_⟩
    · simp only [appV, newsOf, List.length_cons, List.length_nil, Nat.zero_add, Nat.mul_one, if_true, Bool.false_and, Bool.false_eq_true, if_false, appS, ht]
      rw [if_pos (by simp [hf])]
    · rintro j ⟨cs, n, v', z, e⟩
      cases e
      exact .inl ⟨_, _, _, _, rfl⟩
def E65 (b : Nat) (a c : AV) (i : Int) : Env := [.ptr b 0, .undef, .undef, .undef, a, c, .int .i64 i, .undef, .undef, .undef, .undef, .undef, .undef, .undef, .undef, .undef, .undef, .undef, .undef, .undef, .undef, .undef, .undef, .undef, .undef, .undef, .undef, .undef, .undef, .undef, .undef, .undef, .undef, .undef, .undef, .undef, .undef, .undef, .undef, .undef, .undef, .undef, .undef, .undef, .undef, .undef, .undef, .undef, .undef, .undef, .undef, .undef, .undef, .undef, .undef, .undef]
/-- What holds in Burst's loop. -/
structure In65 (s S : St) (f : Int) (L : List (List UInt8)) (a c : AV) (i : Nat) : Prop where
  ext : Ext s S
  ga : GrowAt s.next S a (ints f i)
  gc : GrowAt s.next S c ((L.take i).map AV.str)
  off : ∀ j, tkOf a j → ¬ tkOf c j
theorem ints_succ (f : Int) (i : Nat) : ints f (i + 1) = ints f i ++ [.int .i64 ((f + (i : Nat)) % 8)] := by simp [ints, List.range_succ]
theorem ints_len (f : Int) (i : Nat) : (ints f i).length = i := by simp [ints]
theorem round65 (k : Nat) {s S : St} {b W st : Nat} {L : List (List UInt8)} {f : Int} (hf0 : 0 ≤ f) (hf8 : f < 8) (h : ROut s b W L f st) {a c : AV} {i : Nat} (hI : In65 s S f L a c i) (hiL : i < L.length) (hiW : i < W) (h8 : i < 8) :
    ∃ e' S' a' c', evC tabGl (evO (k + 1)) (k + 1) M65b0 (E65 b a c (i : Nat)) S = some (.nrm, e', S') ∧ maskE M65b0l e' = E65 b a' c' ((i + 1 : Nat) : Int) ∧ In65 s S' f L a' c' (i + 1) := by
  obtain ⟨hb, lv, hg, hL⟩ := h
  have ln := hL.len
  have hgS : S.get b = some (.cells 0 [.int .i64 (W : Nat), .int .i64 f, lv, .int .i64 (st : Nat)]) := (hI.ext.get b hb).trans hg
  have q1 : ((i : Int) < ((L.length : Nat) : Int)) = True := eq_true (by omega)
  have q2 : ((i : Int) < ((W : Nat) : Int)) = True := eq_true (by omega)
  have w1 : IntKind.i64.wrap (f + (i : Int)) = f + (i : Int) := wrapI _ (by omega) (by omega)
  have w2 : IntKind.i64.wrap ((i : Int) + 1) = ((i + 1 : Nat) : Int) := (wrapI _ (by omega) (by omega)).trans (by omega)
  have h23 := rmodO k (f + (i : Nat))
  obtain ⟨a', S1, a1, a2, a3, a4, a5⟩ := grow_app (by_ := 8) (by omega) hI.ga hI.ext.le (by rw [ints_len]; omega) (.int .i64 ((f + (i : Nat)) % 8))
  have hc1 : GrowAt s.next S1 c ((L.take i).map AV.str) := hI.gc.mono a3 (fun j hj => a4 j (hI.gc.lt hj).2 (fun hk => hI.off j hk hj))
  obtain ⟨c', S2, c1, c2, c3, c4, c5⟩ := grow_app (by_ := 16) (by omega) hc1 (Nat.le_trans hI.ext.le a3) (by simp; omega) (.str (L.getD i []))
  have na : ∀ j, j < s.next → ¬ tkOf a j := fun j hj hk => by have := (hI.ga.lt hk).1; omega
  have nc : ∀ j, j < s.next → ¬ tkOf c j := fun j hj hk => by have := (hI.gc.lt hk).1; omega
  have le := hI.ext.le
  have hg1 : S1.get b = some (.cells 0 [.int .i64 (W : Nat), .int .i64 f, lv, .int .i64 (st : Nat)]) := (a4 b (by omega) (na b hb)).trans hgS
  obtain ⟨r, i1, i2⟩ : ∃ r, ixaV 1 lv (.int .i64 (i : Int)) = some (.rp r) ∧ Ab.cut r 0 none = some (.str (L.getD i [])) := by
    rcases hL with ⟨rfl, rfl⟩ | ⟨t, v, rfl, _⟩
    · simp at hiL
    · refine ⟨(L.map AV.str).drop i, ?_, ?_⟩
      · simp only [ixaV, idx]
        rw [if_pos ⟨by omega, by omega⟩]
        simp
      · rw [Ab.cut, List.getElem?_drop, Nat.add_zero, List.getElem?_map, List.getD_eq_getElem?_getD, List.getElem?_eq_getElem hiL]
        rfl
  have f1 : ∀ z, fill1 [.int .i64 0] 0 1 (.int .i64 z) = some [.int .i64 z] := fun _ => rfl
  have f2 : ∀ x, fill1 [.str []] 0 1 (.str x) = some [.str x] := fun _ => rfl
  have hx : In65 s S2 f L a' c' (i + 1) := by
    refine ⟨⟨by omega, fun j hj => ?_⟩, ?_, ?_, fun j hj hk => ?_⟩
    · rw [c4 j (by omega) (nc j hj), a4 j (by omega) (na j hj)]
      exact hI.ext.get j hj
    · rw [ints_succ]
      refine a2.mono c3 fun j hj => c4 j (a2.lt hj).2 (fun hk => ?_)
      rcases a5 j hj with h1 | h1
      · exact hI.off j h1 hk
      · have := (hI.gc.lt hk).2; omega
    · rw [List.take_add_one, List.getElem?_eq_getElem hiL, List.map_append]
      rw [List.getD_eq_getElem?_getD, List.getElem?_eq_getElem hiL] at c2
      exact c2
    · rcases a5 j hj with h1 | h1
      · rcases c5 j hk with h2 | h2
        · exact hI.off j h1 h2
        · have := (hI.ga.lt h1).2; omega
      · rcases c5 j hk with h2 | h2
        · have := (hI.gc.lt h2).2; omega
        · have := (a2.lt hj).2; omega
  suffices hs : ∃ e', evC tabGl (evO (k + 1)) (k + 1) M65b0 (E65 b a c (i : Nat)) S = some (.nrm, e', S2) ∧ maskE M65b0l e' = E65 b a' c' ((i + 1 : Nat) : Int) by
    obtain ⟨e', g1, g2⟩ := hs
    exact ⟨e', S2, a', c', g1, g2, hx⟩
  simp only [M65b0, E65, hgS, ln, q1, q2, w1, h23, f1, f2, a1, hg1, i1, i2, c1, loadR_rp, ev1_bsiR, bsiR_sl, az_bsi, bk_bsi, ev1_eqv, eqptr_ptr, qES0, qES1, qES2, env0, List.length_cons, List.length_nil, Nat.reduceAdd, Nat.reduceSub, List.replicate, List.cons_append, List.nil_append, opd, Env.put, Env.at, List.set_cons_zero, List.set_cons_succ, List.getD_cons_zero, List.getD_cons_succ, freezeL, resVs, oneOr, Option.map_some, Option.map_none, List.map_cons, List.map_nil, if_true, if_false, Bool.not_true, Bool.not_false, Bool.false_eq_true, reduceIte, decide_true, decide_false, Int.reduceLT, Int.reduceLE, Int.reduceGT, Int.reduceGE, Int.reduceEq, Int.reduceBEq, Int.reduceBNe, load_ptr, ldV_some, cellAt_cells, List.getElem?_cons_zero, List.getElem?_cons_succ, store_ptr, stO_some, setAt_0, setAt_1, setAt_2, setAt_3, setAt_4, setAt_5, setAt_6, setAt_7, setAt_8, setAt_9, setAt_10, setAt_11, setAt_12, cells_int, cells_bool, cells_str, cells_nils, cells_nilp, cells_ptr, cells_sl, cells_u8, cells_u16, cells_agg, get_upd_is, Option.isSome_some, upd_upd, ev1_nchkV, ev1_faV, nchkV_ptr, faV_ptr, ev1_extV, extV_tup, eqptr_nil, eqptr_ptr, Nat.zero_add, Nat.add_zero, qPL0, qPL1, qPL2, qPL3, qPL4, qPL5, beq_self_eq_true, qED0, qED1, placeR]
  rw [drawR_ok]; case h => simp (config := {decide := true}) [calm, calmPair, calmTwo, List.range, List.range.loop, sameO_refl, hgS, hg1]
  simp only [w2, qES0, qES1, qES2, env0, List.length_cons, List.length_nil, Nat.reduceAdd, Nat.reduceSub, List.replicate, List.cons_append, List.nil_append, opd, Env.put, Env.at, List.set_cons_zero, List.set_cons_succ, List.getD_cons_zero, List.getD_cons_succ, freezeL, resVs, oneOr, Option.map_some, Option.map_none, List.map_cons, List.map_nil, if_true, if_false, Bool.not_true, Bool.not_false, Bool.false_eq_true, reduceIte, decide_true, decide_false, Int.reduceLT, Int.reduceLE, Int.reduceGT, Int.reduceGE, Int.reduceEq, Int.reduceBEq, Int.reduceBNe, load_ptr, ldV_some, cellAt_cells, List.getElem?_cons_zero, List.getElem?_cons_succ, store_ptr, stO_some, setAt_0, setAt_1, setAt_2, setAt_3, setAt_4, setAt_5, setAt_6, setAt_7, setAt_8, setAt_9, setAt_10, setAt_11, setAt_12, cells_int, cells_bool, cells_str, cells_nils, cells_nilp, cells_ptr, cells_sl, cells_u8, cells_u16, cells_agg, get_upd_is, Option.isSome_some, upd_upd, ev1_nchkV, ev1_faV, nchkV_ptr, faV_ptr, ev1_extV, extV_tup, eqptr_nil, eqptr_ptr, Nat.zero_add, Nat.add_zero, qPL0, qPL1, qPL2, qPL3, qPL4, qPL5, beq_self_eq_true, qED0, qED1, placeR]
  exact ⟨_, rfl, rfl⟩
theorem GrowAt.listV {n0 : Nat} {S : St} {lv : AV} {xs : List AV} {n : Nat} (h : GrowAt n0 S lv xs) (hn : xs.length = n) : ListV lv xs n := by
  subst hn
  rcases h with ⟨rfl, rfl⟩ | ⟨t, v, rfl, _⟩
  · exact .inl ⟨rfl, rfl, rfl⟩
  · exact .inr ⟨_, rfl⟩
theorem GrowAt.freeze {n0 : Nat} {S : St} {lv : AV} {xs : List AV} (h : GrowAt n0 S lv xs) (k : Nat) (s : St) : Ab.freeze k s lv = some (lv, s) := by
  rcases h with ⟨rfl, rfl⟩ | ⟨t, v, rfl, _⟩ <;> rfl
/-- Burst. -/
theorem r65 (k : Nat) {s : St} {b W st : Nat} {L : List (List UInt8)} {f : Int} (hf0 : 0 ≤ f) (hf8 : f < 8) (h : ROut s b W L f st) (h8 : L.length ≤ 8) (hst : st ≤ 8) :
    ∃ s' nsv bsv, evO (k + 20) 65 [.ptr b 0] s = some (.tup [nsv, bsv], s') ∧ ROut s' b W L f (max st (min W L.length)) ∧ ListV nsv (ints f (min W L.length)) (min W L.length) ∧ ListV bsv ((L.take (min W L.length)).map AV.str) (min W L.length) := by
  obtain ⟨n, hn⟩ : ∃ n, n = min W L.length := ⟨_, rfl⟩
  rw [← hn]
  have h0 := h
  obtain ⟨hb, lv, hg, hL⟩ := h
  have ln := hL.len
  have hl : ∃ S a c, In65 s S f L a c n ∧ (outR [MRes.tmp 1 2, MRes.tmp 1 3] (seqR (blockR 0 (iter (evC tabGl (evO (k + 19)) (k + 19) M65b0) M65b0l (k + 19) (E65 b .nils .nils 0) s)) (evC tabGl (evO (k + 19)) (k + 19) M65r0))) = some (.tup [a, c], S.upd b (.cells 0 [.int .i64 (W : Nat), .int .i64 f, lv, .int .i64 ((max st n : Nat) : Int)])) := by
    refine iter_leave (evC tabGl (evO (k + 19)) (k + 19) M65b0) M65b0l (fun i e S => ∃ a c, maskE M65b0l e = E65 b a c (i : Nat) ∧ In65 s S f L a c i)
      (fun out => ∃ S a c, In65 s S f L a c n ∧ (outR [MRes.tmp 1 2, MRes.tmp 1 3] (seqR (blockR 0 out) (evC tabGl (evO (k + 19)) (k + 19) M65r0))) = some (.tup [a, c], S.upd b (.cells 0 [.int .i64 (W : Nat), .int .i64 f, lv, .int .i64 ((max st n : Nat) : Int)]))) n ?_ ?_ n 0 _ _ (k + 19) (by omega) ⟨.nils, .nils, rfl, ⟨Ext.refl _, .inl ⟨rfl, rfl⟩, .inl ⟨rfl, rfl⟩, fun j hj => by obtain ⟨_, _, _, _, hx⟩ := hj; cases hx⟩⟩ (by omega)
    · rintro i e S hi ⟨a, c, h1, h2⟩
      rw [h1]
      obtain ⟨e', S', a', c', g1, g2, g3⟩ := round65 (k + 18) hf0 hf8 h0 h2 (by omega) (by omega) (by omega)
      exact .inl ⟨e', S', g1, a', c', g2, g3⟩
    · rintro e S ⟨a, c, h1, h2⟩
      rw [h1]
      have hgS : S.get b = some (.cells 0 [.int .i64 (W : Nat), .int .i64 f, lv, .int .i64 (st : Nat)]) := (h2.ext.get b hb).trans hg
      have la := (h2.ga.listV (ints_len f n)).len
      have fa := h2.ga.freeze
      have fc := h2.gc.freeze
      have m2 : (if ((n : Nat) : Int) > ((st : Nat) : Int) then ((n : Nat) : Int) else ((st : Nat) : Int)) = ((max st n : Nat) : Int) := by split <;> omega
      by_cases hq : n < L.length
      · have q1 : ((n : Int) < ((L.length : Nat) : Int)) = True := eq_true (by omega)
        have q2 : ((n : Int) < ((W : Nat) : Int)) = False := eq_false (by omega)
        refine ⟨⟨S, a, c, h2, ?_⟩, fun _ _ h => ?_⟩
        · simp only [M65b0, E65, M65r0, hgS, ln, q1, q2, la, m2, fa, fc, ev1_mx, ev1_eqv, eqptr_ptr, qES0, qES1, qES2, env0, List.length_cons, List.length_nil, Nat.reduceAdd, Nat.reduceSub, List.replicate, List.cons_append, List.nil_append, opd, Env.put, Env.at, List.set_cons_zero, List.set_cons_succ, List.getD_cons_zero, List.getD_cons_succ, freezeL, resVs, oneOr, Option.map_some, Option.map_none, List.map_cons, List.map_nil, if_true, if_false, Bool.not_true, Bool.not_false, Bool.false_eq_true, reduceIte, decide_true, decide_false, Int.reduceLT, Int.reduceLE, Int.reduceGT, Int.reduceGE, Int.reduceEq, Int.reduceBEq, Int.reduceBNe, load_ptr, ldV_some, cellAt_cells, List.getElem?_cons_zero, List.getElem?_cons_succ, store_ptr, stO_some, setAt_0, setAt_1, setAt_2, setAt_3, setAt_4, setAt_5, setAt_6, setAt_7, setAt_8, setAt_9, setAt_10, setAt_11, setAt_12, cells_int, cells_bool, cells_str, cells_nils, cells_nilp, cells_ptr, cells_sl, cells_u8, cells_u16, cells_agg, get_upd_is, Option.isSome_some, upd_upd, ev1_nchkV, ev1_faV, nchkV_ptr, faV_ptr, ev1_extV, extV_tup, eqptr_nil, eqptr_ptr, Nat.zero_add, Nat.add_zero, qPL0, qPL1, qPL2, qPL3, qPL4, qPL5, beq_self_eq_true, qED0, qED1, placeR]
        · simp only [M65b0, E65, hgS, ln, q1, q2, ev1_eqv, eqptr_ptr, qES0, qES1, qES2, env0, List.length_cons, List.length_nil, Nat.reduceAdd, Nat.reduceSub, List.replicate, List.cons_append, List.nil_append, opd, Env.put, Env.at, List.set_cons_zero, List.set_cons_succ, List.getD_cons_zero, List.getD_cons_succ, freezeL, resVs, oneOr, Option.map_some, Option.map_none, List.map_cons, List.map_nil, if_true, if_false, Bool.not_true, Bool.not_false, Bool.false_eq_true, reduceIte, decide_true, decide_false, Int.reduceLT, Int.reduceLE, Int.reduceGT, Int.reduceGE, Int.reduceEq, Int.reduceBEq, Int.reduceBNe, load_ptr, ldV_some, cellAt_cells, List.getElem?_cons_zero, List.getElem?_cons_succ, store_ptr, stO_some, setAt_0, setAt_1, setAt_2, setAt_3, setAt_4, setAt_5, setAt_6, setAt_7, setAt_8, setAt_9, setAt_10, setAt_11, setAt_12, cells_int, cells_bool, cells_str, cells_nils, cells_nilp, cells_ptr, cells_sl, cells_u8, cells_u16, cells_agg, get_upd_is, Option.isSome_some, upd_upd, ev1_nchkV, ev1_faV, nchkV_ptr, faV_ptr, ev1_extV, extV_tup, eqptr_nil, eqptr_ptr, Nat.zero_add, Nat.add_zero, qPL0, qPL1, qPL2, qPL3, qPL4, qPL5, beq_self_eq_true, qED0, qED1, placeR] at h
          cases h
      · have q1 : ((n : Int) < ((L.length : Nat) : Int)) = False := eq_false (by omega)
        refine ⟨⟨S, a, c, h2, ?_⟩, fun _ _ h => ?_⟩
        · simp only [M65b0, E65, M65r0, hgS, ln, q1, la, m2, fa, fc, ev1_mx, ev1_eqv, eqptr_ptr, qES0, qES1, qES2, env0, List.length_cons, List.length_nil, Nat.reduceAdd, Nat.reduceSub, List.replicate, List.cons_append, List.nil_append, opd, Env.put, Env.at, List.set_cons_zero, List.set_cons_succ, List.getD_cons_zero, List.getD_cons_succ, freezeL, resVs, oneOr, Option.map_some, Option.map_none, List.map_cons, List.map_nil, if_true, if_false, Bool.not_true, Bool.not_false, Bool.false_eq_true, reduceIte, decide_true, decide_false, Int.reduceLT, Int.reduceLE, Int.reduceGT, Int.reduceGE, Int.reduceEq, Int.reduceBEq, Int.reduceBNe, load_ptr, ldV_some, cellAt_cells, List.getElem?_cons_zero, List.getElem?_cons_succ, store_ptr, stO_some, setAt_0, setAt_1, setAt_2, setAt_3, setAt_4, setAt_5, setAt_6, setAt_7, setAt_8, setAt_9, setAt_10, setAt_11, setAt_12, cells_int, cells_bool, cells_str, cells_nils, cells_nilp, cells_ptr, cells_sl, cells_u8, cells_u16, cells_agg, get_upd_is, Option.isSome_some, upd_upd, ev1_nchkV, ev1_faV, nchkV_ptr, faV_ptr, ev1_extV, extV_tup, eqptr_nil, eqptr_ptr, Nat.zero_add, Nat.add_zero, qPL0, qPL1, qPL2, qPL3, qPL4, qPL5, beq_self_eq_true, qED0, qED1, placeR]
        · simp only [M65b0, E65, hgS, ln, q1, ev1_eqv, eqptr_ptr, qES0, qES1, qES2, env0, List.length_cons, List.length_nil, Nat.reduceAdd, Nat.reduceSub, List.replicate, List.cons_append, List.nil_append, opd, Env.put, Env.at, List.set_cons_zero, List.set_cons_succ, List.getD_cons_zero, List.getD_cons_succ, freezeL, resVs, oneOr, Option.map_some, Option.map_none, List.map_cons, List.map_nil, if_true, if_false, Bool.not_true, Bool.not_false, Bool.false_eq_true, reduceIte, decide_true, decide_false, Int.reduceLT, Int.reduceLE, Int.reduceGT, Int.reduceGE, Int.reduceEq, Int.reduceBEq, Int.reduceBNe, load_ptr, ldV_some, cellAt_cells, List.getElem?_cons_zero, List.getElem?_cons_succ, store_ptr, stO_some, setAt_0, setAt_1, setAt_2, setAt_3, setAt_4, setAt_5, setAt_6, setAt_7, setAt_8, setAt_9, setAt_10, setAt_11, setAt_12, cells_int, cells_bool, cells_str, cells_nils, cells_nilp, cells_ptr, cells_sl, cells_u8, cells_u16, cells_agg, get_upd_is, Option.isSome_some, upd_upd, ev1_nchkV, ev1_faV, nchkV_ptr, faV_ptr, ev1_extV, extV_tup, eqptr_nil, eqptr_ptr, Nat.zero_add, Nat.add_zero, qPL0, qPL1, qPL2, qPL3, qPL4, qPL5, beq_self_eq_true, qED0, qED1, placeR] at h
          cases h
  obtain ⟨S, a, c, h1, h2⟩ := hl
  have h2' : ∀ e, maskE M65b0l e = maskE M65b0l (E65 b .nils .nils 0) → (outR [MRes.tmp 1 2, MRes.tmp 1 3] (seqR (blockR 0 (iter (evC tabGl (evO (k + 19)) (k + 19) M65b0) M65b0l (k + 19) e s)) (evC tabGl (evO (k + 19)) (k + 19) M65r0))) = some (.tup [a, c], S.upd b (.cells 0 [.int .i64 (W : Nat), .int .i64 f, lv, .int .i64 ((max st n : Nat) : Int)])) := fun e he => by
    rw [iter_mask _ _ _ _ _ _ he]; exact h2
  have hgS : S.get b = some (.cells 0 [.int .i64 (W : Nat), .int .i64 f, lv, .int .i64 (st : Nat)]) := (h1.ext.get b hb).trans hg
  refine ⟨S.upd b (.cells 0 [.int .i64 (W : Nat), .int .i64 f, lv, .int .i64 ((max st n : Nat) : Int)]), a, c, ?_, ⟨Nat.lt_of_lt_of_le hb h1.ext.le, lv, get_upd_eq _ _ hgS, ?_⟩, h1.ga.listV (ints_len f n), h1.gc.listV (by simp; omega)⟩
  · rw [show k + 20 = (k + 19) + 1 from rfl, evO_in rfl tab65]
    simp only [M65, evC_loop, qES0, qES1, qES2, env0, List.length_cons, List.length_nil, Nat.reduceAdd, Nat.reduceSub, List.replicate, List.cons_append, List.nil_append, opd, Env.put, Env.at, List.set_cons_zero, List.set_cons_succ, List.getD_cons_zero, List.getD_cons_succ, freezeL, resVs, oneOr, Option.map_some, Option.map_none, List.map_cons, List.map_nil, if_true, if_false, Bool.not_true, Bool.not_false, Bool.false_eq_true, reduceIte, decide_true, decide_false, Int.reduceLT, Int.reduceLE, Int.reduceGT, Int.reduceGE, Int.reduceEq, Int.reduceBEq, Int.reduceBNe, load_ptr, ldV_some, cellAt_cells, List.getElem?_cons_zero, List.getElem?_cons_succ, store_ptr, stO_some, setAt_0, setAt_1, setAt_2, setAt_3, setAt_4, setAt_5, setAt_6, setAt_7, setAt_8, setAt_9, setAt_10, setAt_11, setAt_12, cells_int, cells_bool, cells_str, cells_nils, cells_nilp, cells_ptr, cells_sl, cells_u8, cells_u16, cells_agg, get_upd_is, Option.isSome_some, upd_upd, ev1_nchkV, ev1_faV, nchkV_ptr, faV_ptr, ev1_extV, extV_tup, eqptr_nil, eqptr_ptr, Nat.zero_add, Nat.add_zero, qPL0, qPL1, qPL2, qPL3, qPL4, qPL5, beq_self_eq_true, qED0, qED1, placeR]
    exact h2' _ rfl
  · rcases hL with hx | ⟨t, v, hx, ht, hne, hlt⟩
    · exact .inl hx
    · exact .inr ⟨t, v, hx, by rw [get_upd_ne _ _ hne]; exact (h1.ext.get t hlt).trans ht, hne, Nat.lt_of_lt_of_le hlt h1.ext.le⟩
/-! Go. -/
/-- A list of frames under way, behind n0. -/
def HF (n0 : Nat) (S : St) (l : AV) (i : Nat) (pre : List AV) : Prop :=
  (l = .nils ∧ i = 0 ∧ pre = []) ∨ ∃ b, l = .hs 9 b 0 i ∧ n0 ≤ b ∧ b < S.next ∧ S.get b = some (.cells 9 pre) ∧ pre.length = i * 9 ∧ 0 < i
theorem app_hf {s S : St} {l : AV} {n : Nat} {pre : List AV} (hE : Ext s S) (hl : HF s.next S l n pre) (hn : n ≤ 8) (fr : List AV) (hf : fr.length = 9) :
    ∃ l' S', appV true 9 80 (S.new (.cells 9 fr)) l (.hs 9 S.next 0 1) = some (l', S') ∧ HF s.next S' l' (n + 1) (pre ++ fr) ∧ Ext s S' := by
  have hz := hE.le
  have hnw : newsOf 9 (S.new (.cells 9 fr)) (.hs 9 S.next 0 1) = some (fr, 1) := by
    simp only [newsOf, get_new_eq]
    rw [if_pos ⟨trivial, by omega⟩, List.drop_zero, List.take_of_length_le (by omega)]
  rcases hl with ⟨rfl, rfl, rfl⟩ | ⟨b, rfl, hb0, hb, hg, hlen, hpos⟩
  · refine ⟨.hs 9 (S.new (.cells 9 fr)).next 0 1, (S.new (.cells 9 fr)).new (.cells 9 fr), ?_, .inr ⟨_, rfl, by simp only [St.new]; omega, by simp [St.new], get_new_eq _ _, by simpa using hf, by omega⟩, (hE.new _).new _⟩
    simp only [appV, hnw]
    rfl
  · have hg1 : (S.new (.cells 9 fr)).get b = some (.cells 9 pre) := by rw [get_new_ne _ _ (by omega)]; exact hg
    have nu : ((S.new (.cells 9 fr)).upd b .dead).next = (S.new (.cells 9 fr)).next := rfl
    refine ⟨.hs 9 (S.new (.cells 9 fr)).next 0 (n + 1), ((S.new (.cells 9 fr)).upd b .dead).new (.cells 9 (pre ++ fr)), ?_, .inr ⟨_, rfl, by simp only [St.new]; omega, by simp [St.new, St.upd], ?_, by simp [hf, hlen]; omega, by omega⟩, ((hE.new _).upd hb0 _).new _⟩
    · have hfit : fits (n + 1) 80 = true := by simp [fits]; omega
      simp only [appV, hnw, notSl, Bool.and_self, if_true, appH, hg1]
      rw [if_pos ⟨trivial, trivial, hlen, hfit⟩]
    · have := get_new_eq ((S.new (.cells 9 fr)).upd b .dead) (.cells 9 (pre ++ fr))
      rwa [nu] at this
def E53 (w : Nat) (x nsv bsv : AV) (i : Int) : Env := [.ptr w 0, .undef, .undef, x, nsv, bsv, .int .i64 i, .undef, .undef, .undef, .undef, .undef, .undef, .undef, .undef, .undef, .undef, .undef, .undef, .undef, .undef, .undef, .undef, .undef, .undef, .undef, .undef, .undef, .undef, .undef, .undef, .undef, .undef, .undef, .undef, .undef, .undef, .undef, .undef, .undef, .undef, .undef, .undef, .undef, .undef, .undef, .undef, .undef, .undef, .undef, .undef, .undef, .undef, .undef, .undef, .undef, .undef, .undef, .undef, .undef, .undef, .undef, .undef, .undef, .undef, .undef, .undef, .undef, .undef, .undef, .undef, .undef, .undef, .undef, .undef, .undef, .undef, .undef, .undef, .undef, .undef]
def X53 (w : Nat) (x nsv bsv : AV) (m : Nat) : Env := [.ptr w 0, .undef, .undef, x, nsv, bsv, .int .i64 (m : Nat), .undef, .undef, .undef, .undef, .undef, .undef, .undef, .undef, .undef, .undef, .undef, .undef, .undef, .int .i64 (m : Nat), nsv, .int .i64 (m : Nat), .bool false, .undef, .undef, .undef, .undef, .undef, .undef, .undef, .undef, .undef, .undef, .undef, .undef, .undef, .undef, .undef, .undef, .undef, .undef, .undef, .undef, .undef, .undef, .undef, .undef, .undef, .undef, .undef, .undef, .undef, .undef, .undef, .undef, .undef, .undef, .undef, .undef, .undef, .undef, .undef, .undef, .undef, .undef, .undef, .undef, .undef, .undef, .undef, .undef, .undef, .undef, .undef, .undef, .undef, .undef, .undef, .undef, .undef]
theorem loop53 (k : Nat) {s0 : St} {w : Nat} {T : Tn} {sz : Int} {wo : Nat} (hw : s0.get w = some (wC T sz wo)) (hwl : w < s0.next) (nsv bsv : AV) (m : Nat) (L0 : List (List UInt8)) (f0 : Int) (h8 : m ≤ 8) (hm : m ≤ L0.length)
    (h1 : ListV nsv (ints f0 m) m) (h2 : ListV bsv ((L0.take m).map AV.str) m) (e : Env) (he : maskE M53b0l e = E53 w .nils nsv bsv 0) :
    ∃ S l, iter (evC tabGl (evO (k + 10)) (k + 10) M53b0) M53b0l (k + 10) e s0 = some (.exit 0, X53 w l nsv bsv m, S) ∧ HF s0.next S l m (preG (T.role == 1) T.nx f0 L0 m) ∧ Ext s0 S := by
  have l0 := h1.len
  refine iter_leave (evC tabGl (evO (k + 10)) (k + 10) M53b0) M53b0l (fun n e S => ∃ l, maskE M53b0l e = E53 w l nsv bsv (n : Nat) ∧ HF s0.next S l n (preG (T.role == 1) T.nx f0 L0 n) ∧ Ext s0 S)
    (fun out => ∃ S l, out = some (.exit 0, X53 w l nsv bsv m, S) ∧ HF s0.next S l m (preG (T.role == 1) T.nx f0 L0 m) ∧ Ext s0 S) m ?_ ?_ m 0 _ _ (k + 10) (by omega) ⟨.nils, he, .inl ⟨rfl, rfl, rfl⟩, Ext.refl _⟩ (by omega)
  · rintro n e S hn ⟨l, g1, g2, g3⟩
    rw [g1]
    left
    obtain ⟨l', S', a1, a2, a3⟩ := app_hf g3 g2 (by omega) (plC 0 0 (T.role == 1) 1 0 T.nx ((f0 + (n : Nat)) % 8) false (L0.getD n [])) rfl
    obtain ⟨r1, b1, b2⟩ := ix_ns h1 hn
    obtain ⟨r2, c1, c2⟩ := ix_bs h2 hn hm
    have q : ((n : Int) < ((m : Nat) : Int)) = True := eq_true (by omega)
    have w1 : IntKind.i64.wrap ((n : Int) + 1) = ((n + 1 : Nat) : Int) := (wrapI _ (by omega) (by omega)).trans (by omega)
    rw [← preG_succ] at a2
    have gw := (g3.get w hwl).trans hw
    suffices hs : ∃ e', evC tabGl (evO (k + 10)) (k + 10) M53b0 (E53 w l nsv bsv (n : Nat)) S = some (.nrm, e', S') ∧ maskE M53b0l e' = E53 w l' nsv bsv ((n + 1 : Nat) : Int) by
      obtain ⟨e', p1, p2⟩ := hs
      exact ⟨e', S', p1, l', p2, a2, a3⟩
    unfold plC at a1
    unfold wC at gw
    simp only [M53b0, E53, l0, q, gw, b1, b2, c1, c2, a1, w1, loadR_rp, ev1_eqv, eqptr_ptr, qES0, qES1, qES2, env0, List.length_cons, List.length_nil, Nat.reduceAdd, Nat.reduceSub, List.replicate, List.cons_append, List.nil_append, opd, Env.put, Env.at, List.set_cons_zero, List.set_cons_succ, List.getD_cons_zero, List.getD_cons_succ, freezeL, resVs, oneOr, Option.map_some, Option.map_none, List.map_cons, List.map_nil, if_true, if_false, Bool.not_true, Bool.not_false, Bool.false_eq_true, reduceIte, decide_true, decide_false, Int.reduceLT, Int.reduceLE, Int.reduceGT, Int.reduceGE, Int.reduceEq, Int.reduceBEq, Int.reduceBNe, load_ptr, ldV_some, cellAt_cells, List.getElem?_cons_zero, List.getElem?_cons_succ, store_ptr, stO_some, setAt_0, setAt_1, setAt_2, setAt_3, setAt_4, setAt_5, setAt_6, setAt_7, setAt_8, setAt_9, setAt_10, setAt_11, setAt_12, cells_int, cells_bool, cells_str, cells_nils, cells_nilp, cells_ptr, cells_sl, cells_u8, cells_u16, cells_agg, get_upd_is, Option.isSome_some, upd_upd, ev1_nchkV, ev1_faV, nchkV_ptr, faV_ptr, ev1_extV, extV_tup, eqptr_nil, eqptr_ptr, Nat.zero_add, Nat.add_zero, qPL0, qPL1, qPL2, qPL3, qPL4, qPL5, beq_self_eq_true, qED0, qED1, placeR]
    rw [drawR_ok]; case h => simp (config := { decide := true }) [calm, calmPair, calmTwo, List.range, List.range.loop, sameO_refl]
    simp only [w1, qES0, qES1, qES2, env0, List.length_cons, List.length_nil, Nat.reduceAdd, Nat.reduceSub, List.replicate, List.cons_append, List.nil_append, opd, Env.put, Env.at, List.set_cons_zero, List.set_cons_succ, List.getD_cons_zero, List.getD_cons_succ, freezeL, resVs, oneOr, Option.map_some, Option.map_none, List.map_cons, List.map_nil, if_true, if_false, Bool.not_true, Bool.not_false, Bool.false_eq_true, reduceIte, decide_true, decide_false, Int.reduceLT, Int.reduceLE, Int.reduceGT, Int.reduceGE, Int.reduceEq, Int.reduceBEq, Int.reduceBNe, load_ptr, ldV_some, cellAt_cells, List.getElem?_cons_zero, List.getElem?_cons_succ, store_ptr, stO_some, setAt_0, setAt_1, setAt_2, setAt_3, setAt_4, setAt_5, setAt_6, setAt_7, setAt_8, setAt_9, setAt_10, setAt_11, setAt_12, cells_int, cells_bool, cells_str, cells_nils, cells_nilp, cells_ptr, cells_sl, cells_u8, cells_u16, cells_agg, get_upd_is, Option.isSome_some, upd_upd, ev1_nchkV, ev1_faV, nchkV_ptr, faV_ptr, ev1_extV, extV_tup, eqptr_nil, eqptr_ptr, Nat.zero_add, Nat.add_zero, qPL0, qPL1, qPL2, qPL3, qPL4, qPL5, beq_self_eq_true, qED0, qED1, placeR]
    exact ⟨_, rfl, rfl⟩
  · rintro e S ⟨l, g1, g2, g3⟩
    rw [g1]
    have q : (((m : Nat) : Int) < ((m : Nat) : Int)) = False := eq_false (by omega)
    have hx : evC tabGl (evO (k + 10)) (k + 10) M53b0 (E53 w l nsv bsv (m : Nat)) S = some (.exit 0, X53 w l nsv bsv m, S) := by
      simp only [M53b0, E53, X53, l0, q, qES0, qES1, qES2, env0, List.length_cons, List.length_nil, Nat.reduceAdd, Nat.reduceSub, List.replicate, List.cons_append, List.nil_append, opd, Env.put, Env.at, List.set_cons_zero, List.set_cons_succ, List.getD_cons_zero, List.getD_cons_succ, freezeL, resVs, oneOr, Option.map_some, Option.map_none, List.map_cons, List.map_nil, if_true, if_false, Bool.not_true, Bool.not_false, Bool.false_eq_true, reduceIte, decide_true, decide_false, Int.reduceLT, Int.reduceLE, Int.reduceGT, Int.reduceGE, Int.reduceEq, Int.reduceBEq, Int.reduceBNe, load_ptr, ldV_some, cellAt_cells, List.getElem?_cons_zero, List.getElem?_cons_succ, store_ptr, stO_some, setAt_0, setAt_1, setAt_2, setAt_3, setAt_4, setAt_5, setAt_6, setAt_7, setAt_8, setAt_9, setAt_10, setAt_11, setAt_12, cells_int, cells_bool, cells_str, cells_nils, cells_nilp, cells_ptr, cells_sl, cells_u8, cells_u16, cells_agg, get_upd_is, Option.isSome_some, upd_upd, ev1_nchkV, ev1_faV, nchkV_ptr, faV_ptr, ev1_extV, extV_tup, eqptr_nil, eqptr_ptr, Nat.zero_add, Nat.add_zero, qPL0, qPL1, qPL2, qPL3, qPL4, qPL5, beq_self_eq_true]
    rw [hx]
    exact ⟨⟨S, l, rfl, g2, g3⟩, fun _ _ h => by cases h⟩
theorem r53N (k : Nat) {s : St} {w wo W : Nat} {sz : Int} {T : Tn} {l : List Part} (h : RT s w wo sz W T l) (hm : T.mine = false) : evO (k + 1) 53 [.ptr w 0] s = some (.nils, s) := by
  have g := h.get
  unfold wC at g
  rw [hm] at g
  rw [evO_in rfl tab53]
  simp only [M53, g, ev1_eqv, eqptr_ptr, qES0, qES1, qES2, env0, List.length_cons, List.length_nil, Nat.reduceAdd, Nat.reduceSub, List.replicate, List.cons_append, List.nil_append, opd, Env.put, Env.at, List.set_cons_zero, List.set_cons_succ, List.getD_cons_zero, List.getD_cons_succ, freezeL, resVs, oneOr, Option.map_some, Option.map_none, List.map_cons, List.map_nil, if_true, if_false, Bool.not_true, Bool.not_false, Bool.false_eq_true, reduceIte, decide_true, decide_false, Int.reduceLT, Int.reduceLE, Int.reduceGT, Int.reduceGE, Int.reduceEq, Int.reduceBEq, Int.reduceBNe, load_ptr, ldV_some, cellAt_cells, List.getElem?_cons_zero, List.getElem?_cons_succ, store_ptr, stO_some, setAt_0, setAt_1, setAt_2, setAt_3, setAt_4, setAt_5, setAt_6, setAt_7, setAt_8, setAt_9, setAt_10, setAt_11, setAt_12, cells_int, cells_bool, cells_str, cells_nils, cells_nilp, cells_ptr, cells_sl, cells_u8, cells_u16, cells_agg, get_upd_is, Option.isSome_some, upd_upd, ev1_nchkV, ev1_faV, nchkV_ptr, faV_ptr, ev1_extV, extV_tup, eqptr_nil, eqptr_ptr, Nat.zero_add, Nat.add_zero, qPL0, qPL1, qPL2, qPL3, qPL4, qPL5, beq_self_eq_true]
theorem r53 (k : Nat) {s : St} {w wo W : Nat} {sz : Int} {T : Tn} {l : List Part} (h : RT s w wo sz W T l) (hm : T.mine = true) (hf0 : 0 ≤ T.f) (hf8 : T.f < 8) (h8 : T.L.length ≤ 8) (hst : T.st ≤ 8) :
    ∃ s', evO (k + 30) 53 [.ptr w 0] s = some (.sl (goC (T.role == 1) T.nx T.f T.L T.od (T.m W)) (max 1 (T.m W)) none, s') ∧ RT s' w wo sz W (T.went W) l := by
  obtain ⟨m, hmm⟩ : ∃ m, m = T.m W := ⟨_, rfl⟩
  have hml : m = min W T.L.length := hmm
  obtain ⟨S1, nsv, bsv, b1, b2, b3, b4⟩ := r65 (k + 9) hf0 hf8 h.out.head h8 hst
  rw [← hml] at b2 b3 b4
  have hw0 := h.get
  have A1 := (h.out.routStep b1 (fun C hC => ⟨hC, trivial⟩) b2).swap
  have hw1 := A1.head
  have fn : ∀ n s, Ab.freeze n s nsv = some (nsv, s) := fun n s => by rcases b3 with ⟨rfl, _⟩ | ⟨_, rfl⟩ <;> rfl
  have fb : ∀ n s, Ab.freeze n s bsv = some (bsv, s) := fun n s => by rcases b4 with ⟨rfl, _⟩ | ⟨_, rfl⟩ <;> rfl
  obtain ⟨S2, x, l1, l2, l3⟩ := loop53 (k + 19) (w := w) (T := T) hw1.1 hw1.2 nsv bsv m T.L T.f (by omega) (by omega) b3 b4 (E53 w .nils nsv bsv 0) rfl
  have hl : ∀ e, maskE M53b0l e = E53 w .nils nsv bsv 0 → iter (evC tabGl (evO (k + 29)) (k + 29) M53b0) M53b0l (k + 29) e S1 = some (.exit 0, X53 w x nsv bsv m, S2) := by
    intro e he
    rw [← l1, show k + 19 + 10 = (k + 28) + 1 from rfl, show k + 29 = (k + 28) + 1 from rfl, iter_succ, iter_succ, he]
    rfl
  have hw2 := (l3.get w hw1.2).trans hw1.1
  suffices hs : ∃ s', evO (k + 30) 53 [.ptr w 0] s = some (.sl (goC (T.role == 1) T.nx T.f T.L T.od m) (max 1 m) none, s') ∧ S1.next ≤ s'.next ∧ s'.get w = some (.cells 0 [.int .i64 T.role, .int .i64 sz, .bool false, .ptr wo 0, .int .i64 T.nx, .bool T.od]) ∧ ∀ j, j < S1.next → j ≠ w → s'.get j = S1.get j by
    obtain ⟨s', p1, p2, p3, p4⟩ := hs
    refine ⟨s', by rw [← hmm]; exact p1, ?_⟩
    have hwf := evO_wf p1 ⟨trivial, trivial⟩ h.wf
    have hwent : wC (T.went W) sz wo = .cells 0 [.int .i64 T.role, .int .i64 sz, .bool false, .ptr wo 0, .int .i64 T.nx, .bool T.od] := by
      unfold wC Tn.went; rw [if_pos hm]
    have e1 : (T.went W).L = T.L := by unfold Tn.went; split <;> rfl
    have e2 : (T.went W).f = T.f := by unfold Tn.went; split <;> rfl
    have e3 : (T.went W).st = max T.st m := by unfold Tn.went; rw [if_pos hm, hmm]
    unfold RT
    rw [e1, e2, e3, hwent]
    exact A1.turn p2 hwf (fun j hj hn => p4 j hj hn) ⟨p3, Nat.lt_of_lt_of_le hw1.2 p2⟩ (fun j hj => .inr hj)
  rw [show k + 30 = (k + 29) + 1 from rfl, evO_in rfl tab53]
  unfold wC at hw0 hw1 hw2
  rw [hm] at hw0 hw1 hw2
  have hwl : w < S2.next := Nat.lt_of_lt_of_le hw1.2 l3.le
  have glt : ∀ l, (S2.pl l).get w = some (.cells 0 [.int .i64 T.role, .int .i64 sz, .bool true, .ptr wo 0, .int .i64 T.nx, .bool T.od]) := fun l => ((pl_ext S2 l).get w hwl).trans hw2
  simp only [M53, hw0, b1, fn, fb, evC_loop, ev1_eqv, eqptr_ptr, qES0, qES1, qES2, env0, List.length_cons, List.length_nil, Nat.reduceAdd, Nat.reduceSub, List.replicate, List.cons_append, List.nil_append, opd, Env.put, Env.at, List.set_cons_zero, List.set_cons_succ, List.getD_cons_zero, List.getD_cons_succ, freezeL, resVs, oneOr, Option.map_some, Option.map_none, List.map_cons, List.map_nil, if_true, if_false, Bool.not_true, Bool.not_false, Bool.false_eq_true, reduceIte, decide_true, decide_false, Int.reduceLT, Int.reduceLE, Int.reduceGT, Int.reduceGE, Int.reduceEq, Int.reduceBEq, Int.reduceBNe, load_ptr, ldV_some, cellAt_cells, List.getElem?_cons_zero, List.getElem?_cons_succ, store_ptr, stO_some, setAt_0, setAt_1, setAt_2, setAt_3, setAt_4, setAt_5, setAt_6, setAt_7, setAt_8, setAt_9, setAt_10, setAt_11, setAt_12, cells_int, cells_bool, cells_str, cells_nils, cells_nilp, cells_ptr, cells_sl, cells_u8, cells_u16, cells_agg, get_upd_is, Option.isSome_some, upd_upd, ev1_nchkV, ev1_faV, nchkV_ptr, faV_ptr, ev1_extV, extV_tup, eqptr_nil, eqptr_ptr, Nat.zero_add, Nat.add_zero, qPL0, qPL1, qPL2, qPL3, qPL4, qPL5, beq_self_eq_true, qED0, qED1, placeR]
  rw [hl]
  rotate_left
  · rfl
  dsimp only [X53]
  rcases l2 with ⟨rfl, hm0, hp⟩ | ⟨b, rfl, hb0, hb, hg, hlen, hpos⟩
  · subst hm0
    have lnN : lenV .nils = some (.int .i64 0) := rfl
    have z0 : ((0 : Int) == 0) = true := rfl
    have lnH : ∀ b, lenV (.hs 9 b 0 1) = some (.int .i64 1) := fun _ => rfl
    have w1 : IntKind.i64.wrap (1 - 1) = 0 := rfl
    have ixH : ∀ b, ixaV 9 (.hs 9 b 0 1) (.int .i64 0) = some (.ptr b 0) := fun _ => rfl
    have gb : ∀ (cs : List AV) (Q : Ab.Obj), ((S2.pl [.cells 9 cs]).upd w Q).get S2.next = some (.cells 9 cs) := fun cs Q => by
      rw [get_upd_ne _ _ (by omega)]; exact plg0 _ _ _
    have fz : ∀ (so : Int) (Q : Ab.Obj), Ab.freeze 9 ((S2.pl [.cells 9 [.int .i64 0, .int .i64 0, .bool (T.role == 1), .int .i64 2, .int .i64 so, .int .i64 T.nx, .int .i64 0, .bool true, .str []]]).upd w Q) (.hs 9 S2.next 0 1) = some (.sl (plC 0 0 (T.role == 1) 2 so T.nx 0 true []) 1 none, ((S2.pl [.cells 9 (plC 0 0 (T.role == 1) 2 so T.nx 0 true [])]).upd w Q).upd S2.next (.froz 9 (plC 0 0 (T.role == 1) 2 so T.nx 0 true []))) := by
      intro so Q
      simp only [Ab.freeze, gb]
      rfl
    have fin : ∀ (so : Int), S1.next ≤ (((S2.pl [.cells 9 (plC 0 0 (T.role == 1) 2 so T.nx 0 true [])]).upd w (.cells 0 [.int .i64 T.role, .int .i64 sz, .bool false, .ptr wo 0, .int .i64 T.nx, .bool T.od])).upd S2.next (.froz 9 (plC 0 0 (T.role == 1) 2 so T.nx 0 true []))).next ∧ (((S2.pl [.cells 9 (plC 0 0 (T.role == 1) 2 so T.nx 0 true [])]).upd w (.cells 0 [.int .i64 T.role, .int .i64 sz, .bool false, .ptr wo 0, .int .i64 T.nx, .bool T.od])).upd S2.next (.froz 9 (plC 0 0 (T.role == 1) 2 so T.nx 0 true []))).get w = some (.cells 0 [.int .i64 T.role, .int .i64 sz, .bool false, .ptr wo 0, .int .i64 T.nx, .bool T.od]) ∧ ∀ j, j < S1.next → j ≠ w → (((S2.pl [.cells 9 (plC 0 0 (T.role == 1) 2 so T.nx 0 true [])]).upd w (.cells 0 [.int .i64 T.role, .int .i64 sz, .bool false, .ptr wo 0, .int .i64 T.nx, .bool T.od])).upd S2.next (.froz 9 (plC 0 0 (T.role == 1) 2 so T.nx 0 true []))).get j = S1.get j := by
      intro so
      have n1 := l3.le
      refine ⟨by simp only [St.upd, pl_next]; omega, ?_, fun j hj hn => ?_⟩
      · rw [get_upd_ne _ _ (by omega)]
        exact get_upd_eq _ _ (glt _)
      · rw [get_upd_ne _ _ (by omega), get_upd_ne _ _ hn]
        exact ((pl_ext S2 _).get j (by omega)).trans (l3.get j hj)
    have fl2 : ∀ b, fill1 [.int .i64 0, .int .i64 0, .bool false, .int .i64 0, .int .i64 0, .int .i64 0, .int .i64 0, .bool false, .str []] 2 1 (.bool b) = some [.int .i64 0, .int .i64 0, .bool b, .int .i64 0, .int .i64 0, .int .i64 0, .int .i64 0, .bool false, .str []] := fun _ => rfl
    rw [show S2 = S2.pl [] from rfl]
    cases hod : T.od <;> rw [hod] at glt fin
    · simp only [M53r0, lnN, z0, glt, lnH, w1, ixH, fz, ev1_eqv, eqptr_ptr, qES0, qES1, qES2, env0, List.length_cons, List.length_nil, Nat.reduceAdd, Nat.reduceSub, List.replicate, List.cons_append, List.nil_append, opd, Env.put, Env.at, List.set_cons_zero, List.set_cons_succ, List.getD_cons_zero, List.getD_cons_succ, freezeL, resVs, oneOr, Option.map_some, Option.map_none, List.map_cons, List.map_nil, if_true, if_false, Bool.not_true, Bool.not_false, Bool.false_eq_true, reduceIte, decide_true, decide_false, Int.reduceLT, Int.reduceLE, Int.reduceGT, Int.reduceGE, Int.reduceEq, Int.reduceBEq, Int.reduceBNe, load_ptr, ldV_some, cellAt_cells, List.getElem?_cons_zero, List.getElem?_cons_succ, store_ptr, stO_some, setAt_0, setAt_1, setAt_2, setAt_3, setAt_4, setAt_5, setAt_6, setAt_7, setAt_8, setAt_9, setAt_10, setAt_11, setAt_12, cells_int, cells_bool, cells_str, cells_nils, cells_nilp, cells_ptr, cells_sl, cells_u8, cells_u16, cells_agg, get_upd_is, Option.isSome_some, upd_upd, ev1_nchkV, ev1_faV, nchkV_ptr, faV_ptr, ev1_extV, extV_tup, eqptr_nil, eqptr_ptr, Nat.zero_add, Nat.add_zero, qPL0, qPL1, qPL2, qPL3, qPL4, qPL5, beq_self_eq_true, qED0, qED1, placeR]
      rw [drawR_ok]; case h => simp (config := { decide := true }) [calm, calmPair, calmTwo, List.range, List.range.loop, sameO_refl, glt]
      simp only [lnN, z0, glt, lnH, w1, ixH, fz, ev1_eqv, eqptr_ptr, qES0, qES1, qES2, env0, List.length_cons, List.length_nil, Nat.reduceAdd, Nat.reduceSub, List.replicate, List.cons_append, List.nil_append, opd, Env.put, Env.at, List.set_cons_zero, List.set_cons_succ, List.getD_cons_zero, List.getD_cons_succ, freezeL, resVs, oneOr, Option.map_some, Option.map_none, List.map_cons, List.map_nil, if_true, if_false, Bool.not_true, Bool.not_false, Bool.false_eq_true, reduceIte, decide_true, decide_false, Int.reduceLT, Int.reduceLE, Int.reduceGT, Int.reduceGE, Int.reduceEq, Int.reduceBEq, Int.reduceBNe, load_ptr, ldV_some, cellAt_cells, List.getElem?_cons_zero, List.getElem?_cons_succ, store_ptr, stO_some, setAt_0, setAt_1, setAt_2, setAt_3, setAt_4, setAt_5, setAt_6, setAt_7, setAt_8, setAt_9, setAt_10, setAt_11, setAt_12, cells_int, cells_bool, cells_str, cells_nils, cells_nilp, cells_ptr, cells_sl, cells_u8, cells_u16, cells_agg, get_upd_is, Option.isSome_some, upd_upd, ev1_nchkV, ev1_faV, nchkV_ptr, faV_ptr, ev1_extV, extV_tup, eqptr_nil, eqptr_ptr, Nat.zero_add, Nat.add_zero, qPL0, qPL1, qPL2, qPL3, qPL4, qPL5, beq_self_eq_true, qED0, qED1, placeR]
      exact ⟨_, rfl, fin _⟩
    · simp only [M53r0, lnN, z0, glt, lnH, w1, ixH, fz, ev1_eqv, eqptr_ptr, qES0, qES1, qES2, env0, List.length_cons, List.length_nil, Nat.reduceAdd, Nat.reduceSub, List.replicate, List.cons_append, List.nil_append, opd, Env.put, Env.at, List.set_cons_zero, List.set_cons_succ, List.getD_cons_zero, List.getD_cons_succ, freezeL, resVs, oneOr, Option.map_some, Option.map_none, List.map_cons, List.map_nil, if_true, if_false, Bool.not_true, Bool.not_false, Bool.false_eq_true, reduceIte, decide_true, decide_false, Int.reduceLT, Int.reduceLE, Int.reduceGT, Int.reduceGE, Int.reduceEq, Int.reduceBEq, Int.reduceBNe, load_ptr, ldV_some, cellAt_cells, List.getElem?_cons_zero, List.getElem?_cons_succ, store_ptr, stO_some, setAt_0, setAt_1, setAt_2, setAt_3, setAt_4, setAt_5, setAt_6, setAt_7, setAt_8, setAt_9, setAt_10, setAt_11, setAt_12, cells_int, cells_bool, cells_str, cells_nils, cells_nilp, cells_ptr, cells_sl, cells_u8, cells_u16, cells_agg, get_upd_is, Option.isSome_some, upd_upd, ev1_nchkV, ev1_faV, nchkV_ptr, faV_ptr, ev1_extV, extV_tup, eqptr_nil, eqptr_ptr, Nat.zero_add, Nat.add_zero, qPL0, qPL1, qPL2, qPL3, qPL4, qPL5, beq_self_eq_true, qED0, qED1, placeR]
      rw [drawR_ok]; case h => simp (config := { decide := true }) [calm, calmPair, calmTwo, List.range, List.range.loop, sameO_refl, glt]
      simp only [lnN, z0, glt, lnH, w1, ixH, fz, ev1_eqv, eqptr_ptr, qES0, qES1, qES2, env0, List.length_cons, List.length_nil, Nat.reduceAdd, Nat.reduceSub, List.replicate, List.cons_append, List.nil_append, opd, Env.put, Env.at, List.set_cons_zero, List.set_cons_succ, List.getD_cons_zero, List.getD_cons_succ, freezeL, resVs, oneOr, Option.map_some, Option.map_none, List.map_cons, List.map_nil, if_true, if_false, Bool.not_true, Bool.not_false, Bool.false_eq_true, reduceIte, decide_true, decide_false, Int.reduceLT, Int.reduceLE, Int.reduceGT, Int.reduceGE, Int.reduceEq, Int.reduceBEq, Int.reduceBNe, load_ptr, ldV_some, cellAt_cells, List.getElem?_cons_zero, List.getElem?_cons_succ, store_ptr, stO_some, setAt_0, setAt_1, setAt_2, setAt_3, setAt_4, setAt_5, setAt_6, setAt_7, setAt_8, setAt_9, setAt_10, setAt_11, setAt_12, cells_int, cells_bool, cells_str, cells_nils, cells_nilp, cells_ptr, cells_sl, cells_u8, cells_u16, cells_agg, get_upd_is, Option.isSome_some, upd_upd, ev1_nchkV, ev1_faV, nchkV_ptr, faV_ptr, ev1_extV, extV_tup, eqptr_nil, eqptr_ptr, Nat.zero_add, Nat.add_zero, qPL0, qPL1, qPL2, qPL3, qPL4, qPL5, beq_self_eq_true, qED0, qED1, placeR]
      exact ⟨_, rfl, fin _⟩
  · obtain ⟨m, rfl⟩ : ∃ j, m = j + 1 := ⟨m - 1, by omega⟩
    have hbw : b ≠ w := by have := hw1.2; omega
    have w1 : IntKind.i64.wrap (((m + 1 : Nat) : Int) - 1) = (m : Int) := (wrapI _ (by omega) (by omega)).trans (by omega)
    have nz : ((((m + 1 : Nat) : Int)) == 0) = false := beq_eq_false_iff_ne.2 (by omega)
    have lenG : (goC (T.role == 1) T.nx T.f T.L T.od (m + 1)).length = (m + 1) * 9 := by rw [← setPF, List.length_set, hlen]
    have lnH : lenV (.hs 9 b 0 (m + 1)) = some (.int .i64 ((m + 1 : Nat) : Int)) := rfl
    have ixH : ixaV 9 (.hs 9 b 0 (m + 1)) (.int .i64 (m : Int)) = some (.ptr b (m * 9)) := by
      simp only [ixaV, idx]
      rw [if_pos ⟨by omega, by omega⟩]
      simp
    have hst : storeV 1 S2 (.ptr b (m * 9 + 7)) (.bool true) = some (.undef, S2.upd b (.cells 9 (goC (T.role == 1) T.nx T.f T.L T.od (m + 1)))) := by
      simp only [storeV, hg, cellsOf, storeL, List.length_cons, List.length_nil, fillL, if_true, Nat.zero_add]
      rw [if_pos (by rw [hlen]; omega), setPF (T.role == 1) T.nx T.f T.L T.od m]
    have g8 : (S2.upd b (.cells 9 (goC (T.role == 1) T.nx T.f T.L T.od (m + 1)))).get w = some (.cells 0 [.int .i64 T.role, .int .i64 sz, .bool true, .ptr wo 0, .int .i64 T.nx, .bool T.od]) := by rw [get_upd_ne _ _ (Ne.symm hbw)]; exact hw2
    have gb : ((S2.upd b (.cells 9 (goC (T.role == 1) T.nx T.f T.L T.od (m + 1)))).upd w (.cells 0 [.int .i64 T.role, .int .i64 sz, .bool false, .ptr wo 0, .int .i64 T.nx, .bool T.od])).get b = some (.cells 9 (goC (T.role == 1) T.nx T.f T.L T.od (m + 1))) := by rw [get_upd_ne _ _ hbw]; exact get_upd_eq _ _ hg
    have fz : Ab.freeze 9 ((S2.upd b (.cells 9 (goC (T.role == 1) T.nx T.f T.L T.od (m + 1)))).upd w (.cells 0 [.int .i64 T.role, .int .i64 sz, .bool false, .ptr wo 0, .int .i64 T.nx, .bool T.od])) (.hs 9 b 0 (m + 1)) = some (.sl (goC (T.role == 1) T.nx T.f T.L T.od (m + 1)) (m + 1) none, ((S2.upd b (.cells 9 (goC (T.role == 1) T.nx T.f T.L T.od (m + 1)))).upd w (.cells 0 [.int .i64 T.role, .int .i64 sz, .bool false, .ptr wo 0, .int .i64 T.nx, .bool T.od])).upd b (.froz 9 (goC (T.role == 1) T.nx T.f T.L T.od (m + 1)))) := by
      simp only [Ab.freeze, gb]
      rw [if_pos ⟨trivial, by rw [lenG]; omega⟩, List.drop_zero, List.take_of_length_le (by rw [lenG]; omega)]
    simp only [M53r0, nz, w1, hw2, g8, hg, lnH, ixH, hst, fz, ev1_eqv, eqptr_ptr, qES0, qES1, qES2, env0, List.length_cons, List.length_nil, Nat.reduceAdd, Nat.reduceSub, List.replicate, List.cons_append, List.nil_append, opd, Env.put, Env.at, List.set_cons_zero, List.set_cons_succ, List.getD_cons_zero, List.getD_cons_succ, freezeL, resVs, oneOr, Option.map_some, Option.map_none, List.map_cons, List.map_nil, if_true, if_false, Bool.not_true, Bool.not_false, Bool.false_eq_true, reduceIte, decide_true, decide_false, Int.reduceLT, Int.reduceLE, Int.reduceGT, Int.reduceGE, Int.reduceEq, Int.reduceBEq, Int.reduceBNe, load_ptr, ldV_some, cellAt_cells, List.getElem?_cons_zero, List.getElem?_cons_succ, store_ptr, stO_some, setAt_0, setAt_1, setAt_2, setAt_3, setAt_4, setAt_5, setAt_6, setAt_7, setAt_8, setAt_9, setAt_10, setAt_11, setAt_12, cells_int, cells_bool, cells_str, cells_nils, cells_nilp, cells_ptr, cells_sl, cells_u8, cells_u16, cells_agg, get_upd_is, Option.isSome_some, upd_upd, ev1_nchkV, ev1_faV, nchkV_ptr, faV_ptr, ev1_extV, extV_tup, eqptr_nil, eqptr_ptr, Nat.zero_add, Nat.add_zero, qPL0, qPL1, qPL2, qPL3, qPL4, qPL5, beq_self_eq_true]
    rw [Nat.max_eq_right (by omega : 1 ≤ m + 1)]
    have n1 := l3.le
    refine ⟨_, rfl, by simp only [St.upd]; omega, ?_, fun j hj hn => ?_⟩
    · rw [get_upd_ne _ _ (Ne.symm hbw)]
      exact get_upd_eq _ _ g8
    · rw [get_upd_ne _ _ (by omega), get_upd_ne _ _ hn, get_upd_ne _ _ (by omega)]
      exact l3.get j hj
end Go.Proofs.YtochnineebgbgaaDoor
/- glowwormref12's Out.Ack and Turn.Take. No conditions. -/
set_option linter.unusedSimpArgs false
set_option linter.unusedVariables false
set_option maxRecDepth 100000
set_option maxHeartbeats 8000000
namespace Go.Proofs.YtochnineebgbgaaDoor
open Go Go.Ab
def E66 (b : Nat) (nr : Int) (i : Int) : Env := [.ptr b 0, .int .i64 nr, .undef, .undef, .undef, .undef, .int .i64 i, .undef, .undef, .undef, .undef, .undef, .undef, .undef, .undef, .undef, .undef, .undef, .undef, .undef, .undef, .undef, .undef, .undef, .undef, .undef, .undef, .undef, .undef, .undef, .undef, .undef, .undef, .undef, .undef, .undef, .undef, .undef, .undef, .undef, .undef, .undef, .undef, .undef, .undef, .undef, .undef, .undef, .undef, .undef, .undef, .undef, .undef, .undef, .undef, .undef]
theorem r66 (k : Nat) {s : St} {b W st : Nat} {L : List (List UInt8)} {f : Int} (nr : Int) (h0 : 0 ≤ nr) (h7 : nr ≤ 7) (hf0 : 0 ≤ f) (hf8 : f < 8) (h : ROut s b W L f st) (h8 : L.length ≤ 8) (hst : st ≤ 7) (hsL : st ≤ L.length) :
    ∃ s' v, evO (k + 20) 66 [.ptr b 0, .int .i64 nr] s = some (v, s') ∧ ROut s' b W (if accepts nr f st then L.drop ((nr - f) % 8).toNat else L) (if accepts nr f st then nr else f) (if accepts nr f st then st - ((nr - f) % 8).toNat else st) := by
  have hR := h
  obtain ⟨hb, lv, hg, hL⟩ := h
  have ln := hL.len
  have p0 : (nr ≥ 0) = True := eq_true (by omega)
  have p7 : (nr ≤ 7) = True := eq_true (by omega)
  have rnd : ∀ i : Nat, i ≤ st → (f + (i : Int)) % 8 ≠ nr → ∃ e', evC tabGl (evO (k + 19)) (k + 19) M66b0 (E66 b nr (i : Nat)) s = some (.nrm, e', s) ∧ maskE M66b0l e' = E66 b nr ((i + 1 : Nat) : Int) := by
    intro i hi hne
    have q1 : ((i : Int) ≤ ((st : Nat) : Int)) = True := eq_true (by omega)
    have w1 : IntKind.i64.wrap (f + (i : Int)) = f + (i : Int) := wrapI _ (by omega) (by omega)
    have w2 : IntKind.i64.wrap ((i : Int) + 1) = ((i + 1 : Nat) : Int) := (wrapI _ (by omega) (by omega)).trans (by omega)
    have h23 := rmodO (k + 18) (f + (i : Nat))
    have ne : (((f + (i : Int)) % 8) == nr) = false := beq_eq_false_iff_ne.2 hne
    simp only [M66b0, E66, hg, q1, p0, p7, w1, w2, h23, ne, ev1_eqv, eqptr_ptr, qES0, qES1, qES2, env0, List.length_cons, List.length_nil, Nat.reduceAdd, Nat.reduceSub, List.replicate, List.cons_append, List.nil_append, opd, Env.put, Env.at, List.set_cons_zero, List.set_cons_succ, List.getD_cons_zero, List.getD_cons_succ, freezeL, resVs, oneOr, Option.map_some, Option.map_none, List.map_cons, List.map_nil, if_true, if_false, Bool.not_true, Bool.not_false, Bool.false_eq_true, reduceIte, decide_true, decide_false, Int.reduceLT, Int.reduceLE, Int.reduceGT, Int.reduceGE, Int.reduceEq, Int.reduceBEq, Int.reduceBNe, load_ptr, ldV_some, cellAt_cells, List.getElem?_cons_zero, List.getElem?_cons_succ, store_ptr, stO_some, setAt_0, setAt_1, setAt_2, setAt_3, setAt_4, setAt_5, setAt_6, setAt_7, setAt_8, setAt_9, setAt_10, setAt_11, setAt_12, cells_int, cells_bool, cells_str, cells_nils, cells_nilp, cells_ptr, cells_sl, cells_u8, cells_u16, cells_agg, get_upd_is, Option.isSome_some, upd_upd, ev1_nchkV, ev1_faV, nchkV_ptr, faV_ptr, ev1_extV, extV_tup, eqptr_nil, eqptr_ptr, Nat.zero_add, Nat.add_zero, qPL0, qPL1, qPL2, qPL3, qPL4, qPL5, beq_self_eq_true, qED0, qED1, placeR]
    exact ⟨_, rfl, rfl⟩
  rw [show k + 20 = (k + 19) + 1 from rfl, evO_in rfl tab66]
  by_cases ha : accepts nr f st
  · rw [if_pos ha, if_pos ha, if_pos ha]
    obtain ⟨d, hd⟩ : ∃ d : Nat, (nr - f) % 8 = (d : Int) := ⟨((nr - f) % 8).toNat, by omega⟩
    have hds : d ≤ st := by
      have : (nr - f) % 8 ≤ (st : Int) := ha
      omega
    rw [hd, Int.toNat_natCast]
    obtain ⟨x, lv', S', x1, x2, x3, x4⟩ : ∃ x lv' S', slcV 1 lv (some (.int .i64 (d : Nat))) none = some x ∧ appV false 1 16 s .nils x = some (lv', S') ∧ Ext s S' ∧ LAt S' b lv' (L.drop d) := by
      rcases hL with ⟨rfl, rfl⟩ | ⟨t, v, rfl, ht, hne, hlt⟩
      · have : d = 0 := by simp at hsL; omega
        subst this
        exact ⟨.nils, .nils, s, rfl, rfl, Ext.refl _, .inl ⟨rfl, rfl⟩⟩
      · refine ⟨.sl ((L.drop d).map AV.str) (L.length - d) (tkCut 1 L.length L.length (some (t, v, 1)) |> fun _ => (if L.length = L.length then some (t, v, 1) else none)), ?_⟩
        by_cases hz : L.length - d = 0
        · have hdr : L.drop d = [] := List.drop_eq_nil_of_le (by omega)
          refine ⟨.nils, s, ?_, ?_, Ext.refl _, .inl ⟨rfl, hdr⟩⟩
          · simp only [slcV, bndO, bnd, tkCut]
            rw [if_pos ⟨by omega, by omega⟩]
            simp [List.map_drop, List.take_of_length_le]
          · simp only [appV, newsOf, List.length_map, List.length_drop, Nat.mul_one, if_true, Bool.false_and, Bool.false_eq_true, if_false, appS]
            rw [if_pos hz]
        · refine ⟨.sl ((L.drop d).map AV.str) (L.length - d) (some (s.next, 0, 1)), s.new (.tick 1 0), ?_, ?_, (Ext.refl _).new _, .inr ⟨s.next, 0, by simp, get_new_eq _ _, by omega, by simp [St.new]⟩⟩
          · simp only [slcV, bndO, bnd, tkCut]
            rw [if_pos ⟨by omega, by omega⟩]
            simp [List.map_drop, List.take_of_length_le]
          · have hf : fits (L.length - d) 16 = true := by simp [fits]; omega
            simp only [appV, newsOf, List.length_map, List.length_drop, Nat.mul_one, if_true, Bool.false_and, Bool.false_eq_true, if_false, appS]
            rw [if_neg hz, if_pos hf]
    have hg' := (x3.get b hb).trans hg
    have hc := x4.cells
    have hstV : storeV 1 S' (.ptr b 2) lv' = some (.undef, S'.upd b (.cells 0 [.int .i64 (W : Nat), .int .i64 f, lv', .int .i64 (st : Nat)])) := by
      simp only [storeV, hg', hc, storeL, fillL, List.length_cons, List.length_nil, Nat.zero_add, Nat.reduceAdd, if_true]
      simp
    have gU : ∀ q, (S'.upd b q).get b = some q := fun q => get_upd_eq _ _ hg'
    have hl : (outR [MRes.tmp 0 4, MRes.tmp 0 5] (seqR (blockR 0 (iter (evC tabGl (evO (k + 19)) (k + 19) M66b0) M66b0l (k + 19) (E66 b nr 0) s)) (evC tabGl (evO (k + 19)) (k + 19) M66r0))) = some (.tup [.int .i64 (d : Nat), .bool true], S'.upd b (.cells 0 [.int .i64 (W : Nat), .int .i64 nr, lv', .int .i64 ((st - d : Nat) : Int)])) := by
      refine iter_leave (evC tabGl (evO (k + 19)) (k + 19) M66b0) M66b0l (fun i e S => maskE M66b0l e = E66 b nr (i : Nat) ∧ S = s)
        (fun out => (outR [MRes.tmp 0 4, MRes.tmp 0 5] (seqR (blockR 0 out) (evC tabGl (evO (k + 19)) (k + 19) M66r0))) = some (.tup [.int .i64 (d : Nat), .bool true], S'.upd b (.cells 0 [.int .i64 (W : Nat), .int .i64 nr, lv', .int .i64 ((st - d : Nat) : Int)]))) d ?_ ?_ d 0 _ _ (k + 19) (by omega) ⟨rfl, rfl⟩ (by omega)
      · rintro i e S hi ⟨h1, rfl⟩
        rw [h1]
        obtain ⟨e', g1, g2⟩ := rnd i (by omega) (by omega)
        exact .inl ⟨e', S, g1, g2, rfl⟩
      · rintro e S ⟨h1, rfl⟩
        rw [h1]
        have q1 : ((d : Int) ≤ ((st : Nat) : Int)) = True := eq_true (by omega)
        have w1 : IntKind.i64.wrap (f + (d : Int)) = f + (d : Int) := wrapI _ (by omega) (by omega)
        have w3 : IntKind.i64.wrap (((st : Nat) : Int) - (d : Int)) = ((st - d : Nat) : Int) := (wrapI _ (by omega) (by omega)).trans (by omega)
        have h23 := rmodO (k + 18) (f + (d : Nat))
        have eq : (((f + (d : Int)) % 8) == nr) = true := by rw [show (f + (d : Int)) % 8 = nr by omega]; simp
        refine ⟨?_, fun _ _ h => ?_⟩
        · simp only [M66b0, E66, M66r0, hg, hg', q1, p0, p7, w1, w3, h23, eq, x1, x2, hstV, gU, ev1_slc, ev1_eqv, eqptr_ptr, upd_upd, qES0, qES1, qES2, env0, List.length_cons, List.length_nil, Nat.reduceAdd, Nat.reduceSub, List.replicate, List.cons_append, List.nil_append, opd, Env.put, Env.at, List.set_cons_zero, List.set_cons_succ, List.getD_cons_zero, List.getD_cons_succ, freezeL, resVs, oneOr, Option.map_some, Option.map_none, List.map_cons, List.map_nil, if_true, if_false, Bool.not_true, Bool.not_false, Bool.false_eq_true, reduceIte, decide_true, decide_false, Int.reduceLT, Int.reduceLE, Int.reduceGT, Int.reduceGE, Int.reduceEq, Int.reduceBEq, Int.reduceBNe, load_ptr, ldV_some, cellAt_cells, List.getElem?_cons_zero, List.getElem?_cons_succ, store_ptr, stO_some, setAt_0, setAt_1, setAt_2, setAt_3, setAt_4, setAt_5, setAt_6, setAt_7, setAt_8, setAt_9, setAt_10, setAt_11, setAt_12, cells_int, cells_bool, cells_str, cells_nils, cells_nilp, cells_ptr, cells_sl, cells_u8, cells_u16, cells_agg, get_upd_is, Option.isSome_some, upd_upd, ev1_nchkV, ev1_faV, nchkV_ptr, faV_ptr, ev1_extV, extV_tup, eqptr_nil, eqptr_ptr, Nat.zero_add, Nat.add_zero, qPL0, qPL1, qPL2, qPL3, qPL4, qPL5, beq_self_eq_true, qED0, qED1, placeR]
        · simp only [M66b0, E66, hg, hg', q1, p0, p7, w1, w3, h23, eq, x1, x2, hstV, gU, ev1_slc, ev1_eqv, eqptr_ptr, upd_upd, qES0, qES1, qES2, env0, List.length_cons, List.length_nil, Nat.reduceAdd, Nat.reduceSub, List.replicate, List.cons_append, List.nil_append, opd, Env.put, Env.at, List.set_cons_zero, List.set_cons_succ, List.getD_cons_zero, List.getD_cons_succ, freezeL, resVs, oneOr, Option.map_some, Option.map_none, List.map_cons, List.map_nil, if_true, if_false, Bool.not_true, Bool.not_false, Bool.false_eq_true, reduceIte, decide_true, decide_false, Int.reduceLT, Int.reduceLE, Int.reduceGT, Int.reduceGE, Int.reduceEq, Int.reduceBEq, Int.reduceBNe, load_ptr, ldV_some, cellAt_cells, List.getElem?_cons_zero, List.getElem?_cons_succ, store_ptr, stO_some, setAt_0, setAt_1, setAt_2, setAt_3, setAt_4, setAt_5, setAt_6, setAt_7, setAt_8, setAt_9, setAt_10, setAt_11, setAt_12, cells_int, cells_bool, cells_str, cells_nils, cells_nilp, cells_ptr, cells_sl, cells_u8, cells_u16, cells_agg, get_upd_is, Option.isSome_some, upd_upd, ev1_nchkV, ev1_faV, nchkV_ptr, faV_ptr, ev1_extV, extV_tup, eqptr_nil, eqptr_ptr, Nat.zero_add, Nat.add_zero, qPL0, qPL1, qPL2, qPL3, qPL4, qPL5, beq_self_eq_true, qED0, qED1, placeR] at h
          cases h
    have hl' : ∀ e, maskE M66b0l e = maskE M66b0l (E66 b nr 0) → (outR [MRes.tmp 0 4, MRes.tmp 0 5] (seqR (blockR 0 (iter (evC tabGl (evO (k + 19)) (k + 19) M66b0) M66b0l (k + 19) e s)) (evC tabGl (evO (k + 19)) (k + 19) M66r0))) = some (.tup [.int .i64 (d : Nat), .bool true], S'.upd b (.cells 0 [.int .i64 (W : Nat), .int .i64 nr, lv', .int .i64 ((st - d : Nat) : Int)])) := fun e he => by
      rw [iter_mask _ _ _ _ _ _ he]; exact hl
    refine ⟨S'.upd b (.cells 0 [.int .i64 (W : Nat), .int .i64 nr, lv', .int .i64 ((st - d : Nat) : Int)]), .tup [.int .i64 (d : Nat), .bool true], ?_, Nat.lt_of_lt_of_le hb x3.le, lv', gU _, ?_⟩
    · simp only [M66, evC_loop, qES0, qES1, qES2, env0, List.length_cons, List.length_nil, Nat.reduceAdd, Nat.reduceSub, List.replicate, List.cons_append, List.nil_append, opd, Env.put, Env.at, List.set_cons_zero, List.set_cons_succ, List.getD_cons_zero, List.getD_cons_succ, freezeL, resVs, oneOr, Option.map_some, Option.map_none, List.map_cons, List.map_nil, if_true, if_false, Bool.not_true, Bool.not_false, Bool.false_eq_true, reduceIte, decide_true, decide_false, Int.reduceLT, Int.reduceLE, Int.reduceGT, Int.reduceGE, Int.reduceEq, Int.reduceBEq, Int.reduceBNe, load_ptr, ldV_some, cellAt_cells, List.getElem?_cons_zero, List.getElem?_cons_succ, store_ptr, stO_some, setAt_0, setAt_1, setAt_2, setAt_3, setAt_4, setAt_5, setAt_6, setAt_7, setAt_8, setAt_9, setAt_10, setAt_11, setAt_12, cells_int, cells_bool, cells_str, cells_nils, cells_nilp, cells_ptr, cells_sl, cells_u8, cells_u16, cells_agg, get_upd_is, Option.isSome_some, upd_upd, ev1_nchkV, ev1_faV, nchkV_ptr, faV_ptr, ev1_extV, extV_tup, eqptr_nil, eqptr_ptr, Nat.zero_add, Nat.add_zero, qPL0, qPL1, qPL2, qPL3, qPL4, qPL5, beq_self_eq_true, qED0, qED1, placeR]
      exact hl' _ rfl
    · rcases x4 with hx | ⟨t, v, hx, ht, hne, hlt⟩
      · exact .inl hx
      · exact .inr ⟨t, v, hx, by rw [get_upd_ne _ _ hne]; exact ht, hne, hlt⟩
  · rw [if_neg ha, if_neg ha, if_neg ha]
    have hno : ∀ i : Nat, i ≤ st → (f + (i : Int)) % 8 ≠ nr := fun i hi he => ha (show (nr - f) % 8 ≤ (st : Int) by omega)
    have hl : (outR [MRes.tmp 0 4, MRes.tmp 0 5] (seqR (blockR 0 (iter (evC tabGl (evO (k + 19)) (k + 19) M66b0) M66b0l (k + 19) (E66 b nr 0) s)) (evC tabGl (evO (k + 19)) (k + 19) M66r0))) = some (.tup [.int .i64 0, .bool false], s) := by
      refine iter_leave (evC tabGl (evO (k + 19)) (k + 19) M66b0) M66b0l (fun i e S => maskE M66b0l e = E66 b nr (i : Nat) ∧ S = s)
        (fun out => (outR [MRes.tmp 0 4, MRes.tmp 0 5] (seqR (blockR 0 out) (evC tabGl (evO (k + 19)) (k + 19) M66r0))) = some (.tup [.int .i64 0, .bool false], s)) (st + 1) ?_ ?_ (st + 1) 0 _ _ (k + 19) (by omega) ⟨rfl, rfl⟩ (by omega)
      · rintro i e S hi ⟨h1, rfl⟩
        rw [h1]
        obtain ⟨e', g1, g2⟩ := rnd i (by omega) (hno i (by omega))
        exact .inl ⟨e', S, g1, g2, rfl⟩
      · rintro e S ⟨h1, rfl⟩
        rw [h1]
        have q1 : (((st + 1 : Nat) : Int) ≤ ((st : Nat) : Int)) = False := eq_false (by omega)
        refine ⟨?_, fun _ _ h => ?_⟩
        · simp only [M66b0, E66, M66r0, hg, q1, ev1_eqv, eqptr_ptr, qES0, qES1, qES2, env0, List.length_cons, List.length_nil, Nat.reduceAdd, Nat.reduceSub, List.replicate, List.cons_append, List.nil_append, opd, Env.put, Env.at, List.set_cons_zero, List.set_cons_succ, List.getD_cons_zero, List.getD_cons_succ, freezeL, resVs, oneOr, Option.map_some, Option.map_none, List.map_cons, List.map_nil, if_true, if_false, Bool.not_true, Bool.not_false, Bool.false_eq_true, reduceIte, decide_true, decide_false, Int.reduceLT, Int.reduceLE, Int.reduceGT, Int.reduceGE, Int.reduceEq, Int.reduceBEq, Int.reduceBNe, load_ptr, ldV_some, cellAt_cells, List.getElem?_cons_zero, List.getElem?_cons_succ, store_ptr, stO_some, setAt_0, setAt_1, setAt_2, setAt_3, setAt_4, setAt_5, setAt_6, setAt_7, setAt_8, setAt_9, setAt_10, setAt_11, setAt_12, cells_int, cells_bool, cells_str, cells_nils, cells_nilp, cells_ptr, cells_sl, cells_u8, cells_u16, cells_agg, get_upd_is, Option.isSome_some, upd_upd, ev1_nchkV, ev1_faV, nchkV_ptr, faV_ptr, ev1_extV, extV_tup, eqptr_nil, eqptr_ptr, Nat.zero_add, Nat.add_zero, qPL0, qPL1, qPL2, qPL3, qPL4, qPL5, beq_self_eq_true, qED0, qED1, placeR]
        · simp only [M66b0, E66, hg, q1, ev1_eqv, eqptr_ptr, qES0, qES1, qES2, env0, List.length_cons, List.length_nil, Nat.reduceAdd, Nat.reduceSub, List.replicate, List.cons_append, List.nil_append, opd, Env.put, Env.at, List.set_cons_zero, List.set_cons_succ, List.getD_cons_zero, List.getD_cons_succ, freezeL, resVs, oneOr, Option.map_some, Option.map_none, List.map_cons, List.map_nil, if_true, if_false, Bool.not_true, Bool.not_false, Bool.false_eq_true, reduceIte, decide_true, decide_false, Int.reduceLT, Int.reduceLE, Int.reduceGT, Int.reduceGE, Int.reduceEq, Int.reduceBEq, Int.reduceBNe, load_ptr, ldV_some, cellAt_cells, List.getElem?_cons_zero, List.getElem?_cons_succ, store_ptr, stO_some, setAt_0, setAt_1, setAt_2, setAt_3, setAt_4, setAt_5, setAt_6, setAt_7, setAt_8, setAt_9, setAt_10, setAt_11, setAt_12, cells_int, cells_bool, cells_str, cells_nils, cells_nilp, cells_ptr, cells_sl, cells_u8, cells_u16, cells_agg, get_upd_is, Option.isSome_some, upd_upd, ev1_nchkV, ev1_faV, nchkV_ptr, faV_ptr, ev1_extV, extV_tup, eqptr_nil, eqptr_ptr, Nat.zero_add, Nat.add_zero, qPL0, qPL1, qPL2, qPL3, qPL4, qPL5, beq_self_eq_true, qED0, qED1, placeR] at h
          cases h
    have hl' : ∀ e, maskE M66b0l e = maskE M66b0l (E66 b nr 0) → (outR [MRes.tmp 0 4, MRes.tmp 0 5] (seqR (blockR 0 (iter (evC tabGl (evO (k + 19)) (k + 19) M66b0) M66b0l (k + 19) e s)) (evC tabGl (evO (k + 19)) (k + 19) M66r0))) = some (.tup [.int .i64 0, .bool false], s) := fun e he => by
      rw [iter_mask _ _ _ _ _ _ he]; exact hl
    refine ⟨s, .tup [.int .i64 0, .bool false], ?_, hR⟩
    simp only [M66, evC_loop, qES0, qES1, qES2, env0, List.length_cons, List.length_nil, Nat.reduceAdd, Nat.reduceSub, List.replicate, List.cons_append, List.nil_append, opd, Env.put, Env.at, List.set_cons_zero, List.set_cons_succ, List.getD_cons_zero, List.getD_cons_succ, freezeL, resVs, oneOr, Option.map_some, Option.map_none, List.map_cons, List.map_nil, if_true, if_false, Bool.not_true, Bool.not_false, Bool.false_eq_true, reduceIte, decide_true, decide_false, Int.reduceLT, Int.reduceLE, Int.reduceGT, Int.reduceGE, Int.reduceEq, Int.reduceBEq, Int.reduceBNe, load_ptr, ldV_some, cellAt_cells, List.getElem?_cons_zero, List.getElem?_cons_succ, store_ptr, stO_some, setAt_0, setAt_1, setAt_2, setAt_3, setAt_4, setAt_5, setAt_6, setAt_7, setAt_8, setAt_9, setAt_10, setAt_11, setAt_12, cells_int, cells_bool, cells_str, cells_nils, cells_nilp, cells_ptr, cells_sl, cells_u8, cells_u16, cells_agg, get_upd_is, Option.isSome_some, upd_upd, ev1_nchkV, ev1_faV, nchkV_ptr, faV_ptr, ev1_extV, extV_tup, eqptr_nil, eqptr_ptr, Nat.zero_add, Nat.add_zero, qPL0, qPL1, qPL2, qPL3, qPL4, qPL5, beq_self_eq_true, qED0, qED1, placeR]
    exact hl' _ rfl
section
variable {s s' : St} {l : List Part} {w wo W : Nat} {sz : Int} {T : Tn}
theorem RT.new (h : RT s w wo sz W T l) (o : Ab.Obj) : RT (s.new o) w wo sz W T (cellPart s.next o :: l) := Apart.third' (Apart.new h o)
theorem RT.drop {p : Part} (h : RT s w wo sz W T (p :: l)) : RT s w wo sz W T l := (Apart.third h).tail
theorem r29 (k : Nat) (h : RT s w wo sz W T l) (hn0 : 0 ≤ T.nx) (hn8 : T.nx < 8) (ns : Int) (body : List UInt8) :
    ∃ s', evO (k + 2) 29 [.ptr w 4, .int .i64 ns, .str body] s = some (if ns = T.nx then .tup [.str body, .bool true] else .tup [.str [], .bool false], s') ∧ RT s' w wo sz W { T with nx := if ns = T.nx then (T.nx + 1) % 8 else T.nx, od := !decide (ns = T.nx) } l := by
  have g := h.get
  have h23 := rmodO k (T.nx + 1)
  have w1 : IntKind.i64.wrap (T.nx + 1) = T.nx + 1 := wrapI _ (by omega) (by omega)
  refine ⟨_, ?_, h.set { T with nx := if ns = T.nx then (T.nx + 1) % 8 else T.nx, od := !decide (ns = T.nx) } rfl rfl rfl⟩
  rw [show k + 2 = (k + 1) + 1 from rfl, evO_in rfl tab29]
  unfold wC at g ⊢
  by_cases hc : ns = T.nx
  · have hn : (ns != T.nx) = false := by simp [hc]
    simp only [if_pos hc, decide_eq_true hc]
    simp only [M29, g, h23, w1, hn, upd_upd, ev1_eqv, eqptr_ptr, qES0, qES1, qES2, env0, List.length_cons, List.length_nil, Nat.reduceAdd, Nat.reduceSub, List.replicate, List.cons_append, List.nil_append, opd, Env.put, Env.at, List.set_cons_zero, List.set_cons_succ, List.getD_cons_zero, List.getD_cons_succ, freezeL, resVs, oneOr, Option.map_some, Option.map_none, List.map_cons, List.map_nil, if_true, if_false, Bool.not_true, Bool.not_false, Bool.false_eq_true, reduceIte, decide_true, decide_false, Int.reduceLT, Int.reduceLE, Int.reduceGT, Int.reduceGE, Int.reduceEq, Int.reduceBEq, Int.reduceBNe, load_ptr, ldV_some, cellAt_cells, List.getElem?_cons_zero, List.getElem?_cons_succ, store_ptr, stO_some, setAt_0, setAt_1, setAt_2, setAt_3, setAt_4, setAt_5, setAt_6, setAt_7, setAt_8, setAt_9, setAt_10, setAt_11, setAt_12, cells_int, cells_bool, cells_str, cells_nils, cells_nilp, cells_ptr, cells_sl, cells_u8, cells_u16, cells_agg, get_upd_is, Option.isSome_some, upd_upd, ev1_nchkV, ev1_faV, nchkV_ptr, faV_ptr, ev1_extV, extV_tup, eqptr_nil, eqptr_ptr, Nat.zero_add, Nat.add_zero, qPL0, qPL1, qPL2, qPL3, qPL4, qPL5, beq_self_eq_true]
  · have hn : (ns != T.nx) = true := by simp [hc]
    simp only [if_neg hc, decide_eq_false hc]
    simp only [M29, g, h23, w1, hn, upd_upd, ev1_eqv, eqptr_ptr, qES0, qES1, qES2, env0, List.length_cons, List.length_nil, Nat.reduceAdd, Nat.reduceSub, List.replicate, List.cons_append, List.nil_append, opd, Env.put, Env.at, List.set_cons_zero, List.set_cons_succ, List.getD_cons_zero, List.getD_cons_succ, freezeL, resVs, oneOr, Option.map_some, Option.map_none, List.map_cons, List.map_nil, if_true, if_false, Bool.not_true, Bool.not_false, Bool.false_eq_true, reduceIte, decide_true, decide_false, Int.reduceLT, Int.reduceLE, Int.reduceGT, Int.reduceGE, Int.reduceEq, Int.reduceBEq, Int.reduceBNe, load_ptr, ldV_some, cellAt_cells, List.getElem?_cons_zero, List.getElem?_cons_succ, store_ptr, stO_some, setAt_0, setAt_1, setAt_2, setAt_3, setAt_4, setAt_5, setAt_6, setAt_7, setAt_8, setAt_9, setAt_10, setAt_11, setAt_12, cells_int, cells_bool, cells_str, cells_nils, cells_nilp, cells_ptr, cells_sl, cells_u8, cells_u16, cells_agg, get_upd_is, Option.isSome_some, upd_upd, ev1_nchkV, ev1_faV, nchkV_ptr, faV_ptr, ev1_extV, extV_tup, eqptr_nil, eqptr_ptr, Nat.zero_add, Nat.add_zero, qPL0, qPL1, qPL2, qPL3, qPL4, qPL5, beq_self_eq_true]

theorem r55_a (k : Nat) (h : RT s w wo sz W T l) (hr : T.role = 1 ∨ T.role = 2) (seat count : Int) (cmd : Bool) (kind sort nr ns : Int) (pf : Bool) (body : List UInt8) (hk : kind < 1) : ∃ s', evO (k + 1) 55 [.ptr w 0, .agg (plC seat count cmd kind sort nr ns pf body)] s = some (.tup [.str [], .bool false], s') ∧ RT s' w wo sz W T l := by
  have h1 := RT.new h (.cells 0 (plC seat count cmd kind sort nr ns pf body))
  have g : (s.pl [.cells 0 (plC seat count cmd kind sort nr ns pf body)]).get w = some (wC T sz wo) := h1.get
  refine ⟨s.pl [.cells 0 (plC seat count cmd kind sort nr ns pf body)], ?_, h1.drop⟩
  rw [evO_in rfl tab55]
  unfold wC at g
  unfold plC at *
  rw [show s = s.pl [] from rfl]
  have k1 : (kind < 1) = True := eq_true hk
  simp only [M55, g, k1, ev1_boxV, boxV_some, ev1_eqv, eqptr_ptr, qES0, qES1, qES2, env0, List.length_cons, List.length_nil, Nat.reduceAdd, Nat.reduceSub, List.replicate, List.cons_append, List.nil_append, opd, Env.put, Env.at, List.set_cons_zero, List.set_cons_succ, List.getD_cons_zero, List.getD_cons_succ, freezeL, resVs, oneOr, Option.map_some, Option.map_none, List.map_cons, List.map_nil, if_true, if_false, Bool.not_true, Bool.not_false, Bool.false_eq_true, reduceIte, decide_true, decide_false, Int.reduceLT, Int.reduceLE, Int.reduceGT, Int.reduceGE, Int.reduceEq, Int.reduceBEq, Int.reduceBNe, load_ptr, ldV_some, cellAt_cells, List.getElem?_cons_zero, List.getElem?_cons_succ, store_ptr, stO_some, setAt_0, setAt_1, setAt_2, setAt_3, setAt_4, setAt_5, setAt_6, setAt_7, setAt_8, setAt_9, setAt_10, setAt_11, setAt_12, cells_int, cells_bool, cells_str, cells_nils, cells_nilp, cells_ptr, cells_sl, cells_u8, cells_u16, cells_agg, get_upd_is, Option.isSome_some, upd_upd, ev1_nchkV, ev1_faV, nchkV_ptr, faV_ptr, ev1_extV, extV_tup, eqptr_nil, eqptr_ptr, Nat.zero_add, Nat.add_zero, qPL0, qPL1, qPL2, qPL3, qPL4, qPL5, beq_self_eq_true, qED0, qED1, placeR]
  rw [drawR_ok]; case h => simp (config := {decide := true}) [calm, calmPair, calmTwo, List.range, List.range.loop, sameO_refl, plg0, g]
  simp only [qES0, qES1, qES2, env0, List.length_cons, List.length_nil, Nat.reduceAdd, Nat.reduceSub, List.replicate, List.cons_append, List.nil_append, opd, Env.put, Env.at, List.set_cons_zero, List.set_cons_succ, List.getD_cons_zero, List.getD_cons_succ, freezeL, resVs, oneOr, Option.map_some, Option.map_none, List.map_cons, List.map_nil, if_true, if_false, Bool.not_true, Bool.not_false, Bool.false_eq_true, reduceIte, decide_true, decide_false, Int.reduceLT, Int.reduceLE, Int.reduceGT, Int.reduceGE, Int.reduceEq, Int.reduceBEq, Int.reduceBNe, load_ptr, ldV_some, cellAt_cells, List.getElem?_cons_zero, List.getElem?_cons_succ, store_ptr, stO_some, setAt_0, setAt_1, setAt_2, setAt_3, setAt_4, setAt_5, setAt_6, setAt_7, setAt_8, setAt_9, setAt_10, setAt_11, setAt_12, cells_int, cells_bool, cells_str, cells_nils, cells_nilp, cells_ptr, cells_sl, cells_u8, cells_u16, cells_agg, get_upd_is, Option.isSome_some, upd_upd, ev1_nchkV, ev1_faV, nchkV_ptr, faV_ptr, ev1_extV, extV_tup, eqptr_nil, eqptr_ptr, Nat.zero_add, Nat.add_zero, qPL0, qPL1, qPL2, qPL3, qPL4, qPL5, beq_self_eq_true, qED0, qED1, placeR]
  rfl

theorem r55_b (k : Nat) (h : RT s w wo sz W T l) (hr : T.role = 1 ∨ T.role = 2) (seat count : Int) (cmd : Bool) (kind sort nr ns : Int) (pf : Bool) (body : List UInt8) (hk0 : ¬ kind < 1) (hk : kind > 2) : ∃ s', evO (k + 1) 55 [.ptr w 0, .agg (plC seat count cmd kind sort nr ns pf body)] s = some (.tup [.str [], .bool false], s') ∧ RT s' w wo sz W T l := by
  have h1 := RT.new h (.cells 0 (plC seat count cmd kind sort nr ns pf body))
  have g : (s.pl [.cells 0 (plC seat count cmd kind sort nr ns pf body)]).get w = some (wC T sz wo) := h1.get
  refine ⟨s.pl [.cells 0 (plC seat count cmd kind sort nr ns pf body)], ?_, h1.drop⟩
  rw [evO_in rfl tab55]
  unfold wC at g
  unfold plC at *
  rw [show s = s.pl [] from rfl]
  have k1 : (kind < 1) = False := eq_false (by omega)
  have k2 : (kind > 2) = True := eq_true hk
  simp only [M55, g, k1, k2, ev1_boxV, boxV_some, ev1_eqv, eqptr_ptr, qES0, qES1, qES2, env0, List.length_cons, List.length_nil, Nat.reduceAdd, Nat.reduceSub, List.replicate, List.cons_append, List.nil_append, opd, Env.put, Env.at, List.set_cons_zero, List.set_cons_succ, List.getD_cons_zero, List.getD_cons_succ, freezeL, resVs, oneOr, Option.map_some, Option.map_none, List.map_cons, List.map_nil, if_true, if_false, Bool.not_true, Bool.not_false, Bool.false_eq_true, reduceIte, decide_true, decide_false, Int.reduceLT, Int.reduceLE, Int.reduceGT, Int.reduceGE, Int.reduceEq, Int.reduceBEq, Int.reduceBNe, load_ptr, ldV_some, cellAt_cells, List.getElem?_cons_zero, List.getElem?_cons_succ, store_ptr, stO_some, setAt_0, setAt_1, setAt_2, setAt_3, setAt_4, setAt_5, setAt_6, setAt_7, setAt_8, setAt_9, setAt_10, setAt_11, setAt_12, cells_int, cells_bool, cells_str, cells_nils, cells_nilp, cells_ptr, cells_sl, cells_u8, cells_u16, cells_agg, get_upd_is, Option.isSome_some, upd_upd, ev1_nchkV, ev1_faV, nchkV_ptr, faV_ptr, ev1_extV, extV_tup, eqptr_nil, eqptr_ptr, Nat.zero_add, Nat.add_zero, qPL0, qPL1, qPL2, qPL3, qPL4, qPL5, beq_self_eq_true, qED0, qED1, placeR]
  rw [drawR_ok]; case h => simp (config := {decide := true}) [calm, calmPair, calmTwo, List.range, List.range.loop, sameO_refl, plg0, g]
  simp only [qES0, qES1, qES2, env0, List.length_cons, List.length_nil, Nat.reduceAdd, Nat.reduceSub, List.replicate, List.cons_append, List.nil_append, opd, Env.put, Env.at, List.set_cons_zero, List.set_cons_succ, List.getD_cons_zero, List.getD_cons_succ, freezeL, resVs, oneOr, Option.map_some, Option.map_none, List.map_cons, List.map_nil, if_true, if_false, Bool.not_true, Bool.not_false, Bool.false_eq_true, reduceIte, decide_true, decide_false, Int.reduceLT, Int.reduceLE, Int.reduceGT, Int.reduceGE, Int.reduceEq, Int.reduceBEq, Int.reduceBNe, load_ptr, ldV_some, cellAt_cells, List.getElem?_cons_zero, List.getElem?_cons_succ, store_ptr, stO_some, setAt_0, setAt_1, setAt_2, setAt_3, setAt_4, setAt_5, setAt_6, setAt_7, setAt_8, setAt_9, setAt_10, setAt_11, setAt_12, cells_int, cells_bool, cells_str, cells_nils, cells_nilp, cells_ptr, cells_sl, cells_u8, cells_u16, cells_agg, get_upd_is, Option.isSome_some, upd_upd, ev1_nchkV, ev1_faV, nchkV_ptr, faV_ptr, ev1_extV, extV_tup, eqptr_nil, eqptr_ptr, Nat.zero_add, Nat.add_zero, qPL0, qPL1, qPL2, qPL3, qPL4, qPL5, beq_self_eq_true, qED0, qED1, placeR]
  rfl

theorem r55_c (k : Nat) (h : RT s w wo sz W T l) (hr : T.role = 1 ∨ T.role = 2) (seat count : Int) (cmd : Bool) (kind sort nr ns : Int) (pf : Bool) (body : List UInt8) (hk0 : ¬ kind < 1) (hk1 : ¬ kind > 2) (hc : cmd ≠ (T.role == 2)) : ∃ s', evO (k + 1) 55 [.ptr w 0, .agg (plC seat count cmd kind sort nr ns pf body)] s = some (.tup [.str [], .bool false], s') ∧ RT s' w wo sz W T l := by
  have h1 := RT.new h (.cells 0 (plC seat count cmd kind sort nr ns pf body))
  have g : (s.pl [.cells 0 (plC seat count cmd kind sort nr ns pf body)]).get w = some (wC T sz wo) := h1.get
  refine ⟨s.pl [.cells 0 (plC seat count cmd kind sort nr ns pf body)], ?_, h1.drop⟩
  rw [evO_in rfl tab55]
  unfold wC at g
  unfold plC at *
  rw [show s = s.pl [] from rfl]
  have k1 : (kind < 1) = False := eq_false (by omega)
  have k2 : (kind > 2) = False := eq_false (by omega)
  have b1 : ∀ c : Bool, eqAV (.flat (.one .b)) (.bool c) (.bool c) = some true := fun c => by cases c <;> rfl
  have b2 : ∀ c : Bool, eqAV (.flat (.one .b)) (.bool c) (.bool (!c)) = some false := fun c => by cases c <;> rfl
  have n22 : ((2 : Int) == 2) = true := rfl
  have n12 : ((1 : Int) == 2) = false := rfl
  rcases hr with hr | hr <;> cases cmd <;> rw [hr] at g hc <;> first
    | (exfalso; revert hc; simp; done)
    | (simp only [M55, g, k1, k2, n22, n12, ev1_boxV, boxV_some, ev1_eqv, eqAV, eqFl, eqSc, eqptr_ptr, qES0, qES1, qES2, env0, List.length_cons, List.length_nil, Nat.reduceAdd, Nat.reduceSub, List.replicate, List.cons_append, List.nil_append, opd, Env.put, Env.at, List.set_cons_zero, List.set_cons_succ, List.getD_cons_zero, List.getD_cons_succ, freezeL, resVs, oneOr, Option.map_some, Option.map_none, List.map_cons, List.map_nil, if_true, if_false, Bool.not_true, Bool.not_false, Bool.false_eq_true, reduceIte, decide_true, decide_false, Int.reduceLT, Int.reduceLE, Int.reduceGT, Int.reduceGE, Int.reduceEq, Int.reduceBEq, Int.reduceBNe, load_ptr, ldV_some, cellAt_cells, List.getElem?_cons_zero, List.getElem?_cons_succ, store_ptr, stO_some, setAt_0, setAt_1, setAt_2, setAt_3, setAt_4, setAt_5, setAt_6, setAt_7, setAt_8, setAt_9, setAt_10, setAt_11, setAt_12, cells_int, cells_bool, cells_str, cells_nils, cells_nilp, cells_ptr, cells_sl, cells_u8, cells_u16, cells_agg, get_upd_is, Option.isSome_some, upd_upd, ev1_nchkV, ev1_faV, nchkV_ptr, faV_ptr, ev1_extV, extV_tup, eqptr_nil, eqptr_ptr, Nat.zero_add, Nat.add_zero, qPL0, qPL1, qPL2, qPL3, qPL4, qPL5, beq_self_eq_true, qED0, qED1, placeR]
       rw [drawR_ok]; case h => simp (config := {decide := true}) [calm, calmPair, calmTwo, List.range, List.range.loop, sameO_refl, plg0, g]
       simp only [qES0, qES1, qES2, env0, List.length_cons, List.length_nil, Nat.reduceAdd, Nat.reduceSub, List.replicate, List.cons_append, List.nil_append, opd, Env.put, Env.at, List.set_cons_zero, List.set_cons_succ, List.getD_cons_zero, List.getD_cons_succ, freezeL, resVs, oneOr, Option.map_some, Option.map_none, List.map_cons, List.map_nil, if_true, if_false, Bool.not_true, Bool.not_false, Bool.false_eq_true, reduceIte, decide_true, decide_false, Int.reduceLT, Int.reduceLE, Int.reduceGT, Int.reduceGE, Int.reduceEq, Int.reduceBEq, Int.reduceBNe, load_ptr, ldV_some, cellAt_cells, List.getElem?_cons_zero, List.getElem?_cons_succ, store_ptr, stO_some, setAt_0, setAt_1, setAt_2, setAt_3, setAt_4, setAt_5, setAt_6, setAt_7, setAt_8, setAt_9, setAt_10, setAt_11, setAt_12, cells_int, cells_bool, cells_str, cells_nils, cells_nilp, cells_ptr, cells_sl, cells_u8, cells_u16, cells_agg, get_upd_is, Option.isSome_some, upd_upd, ev1_nchkV, ev1_faV, nchkV_ptr, faV_ptr, ev1_extV, extV_tup, eqptr_nil, eqptr_ptr, Nat.zero_add, Nat.add_zero, qPL0, qPL1, qPL2, qPL3, qPL4, qPL5, beq_self_eq_true, qED0, qED1, placeR]
       rfl)

theorem r55_d (k : Nat) (h : RT s w wo sz W T l) (hr : T.role = 1 ∨ T.role = 2) (seat count : Int) (cmd : Bool) (kind sort nr ns : Int) (pf : Bool) (body : List UInt8) (hk0 : ¬ kind < 1) (hk1 : ¬ kind > 2) (hc : cmd = (T.role == 2)) (hn : nr < 0) : ∃ s', evO (k + 1) 55 [.ptr w 0, .agg (plC seat count cmd kind sort nr ns pf body)] s = some (.tup [.str [], .bool false], s') ∧ RT s' w wo sz W T l := by
  have h1 := RT.new h (.cells 0 (plC seat count cmd kind sort nr ns pf body))
  have g : (s.pl [.cells 0 (plC seat count cmd kind sort nr ns pf body)]).get w = some (wC T sz wo) := h1.get
  refine ⟨s.pl [.cells 0 (plC seat count cmd kind sort nr ns pf body)], ?_, h1.drop⟩
  rw [evO_in rfl tab55]
  unfold wC at g
  unfold plC at *
  rw [show s = s.pl [] from rfl]
  have k1 : (kind < 1) = False := eq_false (by omega)
  have k2 : (kind > 2) = False := eq_false (by omega)
  have m1 : (nr < 0) = True := eq_true hn
  have b1 : ∀ c : Bool, eqAV (.flat (.one .b)) (.bool c) (.bool c) = some true := fun c => by cases c <;> rfl
  have b2 : ∀ c : Bool, eqAV (.flat (.one .b)) (.bool c) (.bool (!c)) = some false := fun c => by cases c <;> rfl
  have n22 : ((2 : Int) == 2) = true := rfl
  have n12 : ((1 : Int) == 2) = false := rfl
  rcases hr with hr | hr <;> cases cmd <;> rw [hr] at g hc <;> first
    | (exfalso; revert hc; simp; done)
    | (simp only [M55, g, k1, k2, m1, n22, n12, ev1_boxV, boxV_some, ev1_eqv, eqAV, eqFl, eqSc, eqptr_ptr, qES0, qES1, qES2, env0, List.length_cons, List.length_nil, Nat.reduceAdd, Nat.reduceSub, List.replicate, List.cons_append, List.nil_append, opd, Env.put, Env.at, List.set_cons_zero, List.set_cons_succ, List.getD_cons_zero, List.getD_cons_succ, freezeL, resVs, oneOr, Option.map_some, Option.map_none, List.map_cons, List.map_nil, if_true, if_false, Bool.not_true, Bool.not_false, Bool.false_eq_true, reduceIte, decide_true, decide_false, Int.reduceLT, Int.reduceLE, Int.reduceGT, Int.reduceGE, Int.reduceEq, Int.reduceBEq, Int.reduceBNe, load_ptr, ldV_some, cellAt_cells, List.getElem?_cons_zero, List.getElem?_cons_succ, store_ptr, stO_some, setAt_0, setAt_1, setAt_2, setAt_3, setAt_4, setAt_5, setAt_6, setAt_7, setAt_8, setAt_9, setAt_10, setAt_11, setAt_12, cells_int, cells_bool, cells_str, cells_nils, cells_nilp, cells_ptr, cells_sl, cells_u8, cells_u16, cells_agg, get_upd_is, Option.isSome_some, upd_upd, ev1_nchkV, ev1_faV, nchkV_ptr, faV_ptr, ev1_extV, extV_tup, eqptr_nil, eqptr_ptr, Nat.zero_add, Nat.add_zero, qPL0, qPL1, qPL2, qPL3, qPL4, qPL5, beq_self_eq_true, qED0, qED1, placeR]
       rw [drawR_ok]; case h => simp (config := {decide := true}) [calm, calmPair, calmTwo, List.range, List.range.loop, sameO_refl, plg0, g]
       simp only [qES0, qES1, qES2, env0, List.length_cons, List.length_nil, Nat.reduceAdd, Nat.reduceSub, List.replicate, List.cons_append, List.nil_append, opd, Env.put, Env.at, List.set_cons_zero, List.set_cons_succ, List.getD_cons_zero, List.getD_cons_succ, freezeL, resVs, oneOr, Option.map_some, Option.map_none, List.map_cons, List.map_nil, if_true, if_false, Bool.not_true, Bool.not_false, Bool.false_eq_true, reduceIte, decide_true, decide_false, Int.reduceLT, Int.reduceLE, Int.reduceGT, Int.reduceGE, Int.reduceEq, Int.reduceBEq, Int.reduceBNe, load_ptr, ldV_some, cellAt_cells, List.getElem?_cons_zero, List.getElem?_cons_succ, store_ptr, stO_some, setAt_0, setAt_1, setAt_2, setAt_3, setAt_4, setAt_5, setAt_6, setAt_7, setAt_8, setAt_9, setAt_10, setAt_11, setAt_12, cells_int, cells_bool, cells_str, cells_nils, cells_nilp, cells_ptr, cells_sl, cells_u8, cells_u16, cells_agg, get_upd_is, Option.isSome_some, upd_upd, ev1_nchkV, ev1_faV, nchkV_ptr, faV_ptr, ev1_extV, extV_tup, eqptr_nil, eqptr_ptr, Nat.zero_add, Nat.add_zero, qPL0, qPL1, qPL2, qPL3, qPL4, qPL5, beq_self_eq_true, qED0, qED1, placeR]
       rfl)

theorem r55_e (k : Nat) (h : RT s w wo sz W T l) (hr : T.role = 1 ∨ T.role = 2) (seat count : Int) (cmd : Bool) (kind sort nr ns : Int) (pf : Bool) (body : List UInt8) (hk0 : ¬ kind < 1) (hk1 : ¬ kind > 2) (hc : cmd = (T.role == 2)) (hn0 : ¬ nr < 0) (hn : nr > 7) : ∃ s', evO (k + 1) 55 [.ptr w 0, .agg (plC seat count cmd kind sort nr ns pf body)] s = some (.tup [.str [], .bool false], s') ∧ RT s' w wo sz W T l := by
  have h1 := RT.new h (.cells 0 (plC seat count cmd kind sort nr ns pf body))
  have g : (s.pl [.cells 0 (plC seat count cmd kind sort nr ns pf body)]).get w = some (wC T sz wo) := h1.get
  refine ⟨s.pl [.cells 0 (plC seat count cmd kind sort nr ns pf body)], ?_, h1.drop⟩
  rw [evO_in rfl tab55]
  unfold wC at g
  unfold plC at *
  rw [show s = s.pl [] from rfl]
  have k1 : (kind < 1) = False := eq_false (by omega)
  have k2 : (kind > 2) = False := eq_false (by omega)
  have m1 : (nr < 0) = False := eq_false (by omega)
  have m2 : (nr > 7) = True := eq_true hn
  have b1 : ∀ c : Bool, eqAV (.flat (.one .b)) (.bool c) (.bool c) = some true := fun c => by cases c <;> rfl
  have b2 : ∀ c : Bool, eqAV (.flat (.one .b)) (.bool c) (.bool (!c)) = some false := fun c => by cases c <;> rfl
  have n22 : ((2 : Int) == 2) = true := rfl
  have n12 : ((1 : Int) == 2) = false := rfl
  rcases hr with hr | hr <;> cases cmd <;> rw [hr] at g hc <;> first
    | (exfalso; revert hc; simp; done)
    | (simp only [M55, g, k1, k2, m1, m2, n22, n12, ev1_boxV, boxV_some, ev1_eqv, eqAV, eqFl, eqSc, eqptr_ptr, qES0, qES1, qES2, env0, List.length_cons, List.length_nil, Nat.reduceAdd, Nat.reduceSub, List.replicate, List.cons_append, List.nil_append, opd, Env.put, Env.at, List.set_cons_zero, List.set_cons_succ, List.getD_cons_zero, List.getD_cons_succ, freezeL, resVs, oneOr, Option.map_some, Option.map_none, List.map_cons, List.map_nil, if_true, if_false, Bool.not_true, Bool.not_false, Bool.false_eq_true, reduceIte, decide_true, decide_false, Int.reduceLT, Int.reduceLE, Int.reduceGT, Int.reduceGE, Int.reduceEq, Int.reduceBEq, Int.reduceBNe, load_ptr, ldV_some, cellAt_cells, List.getElem?_cons_zero, List.getElem?_cons_succ, store_ptr, stO_some, setAt_0, setAt_1, setAt_2, setAt_3, setAt_4, setAt_5, setAt_6, setAt_7, setAt_8, setAt_9, setAt_10, setAt_11, setAt_12, cells_int, cells_bool, cells_str, cells_nils, cells_nilp, cells_ptr, cells_sl, cells_u8, cells_u16, cells_agg, get_upd_is, Option.isSome_some, upd_upd, ev1_nchkV, ev1_faV, nchkV_ptr, faV_ptr, ev1_extV, extV_tup, eqptr_nil, eqptr_ptr, Nat.zero_add, Nat.add_zero, qPL0, qPL1, qPL2, qPL3, qPL4, qPL5, beq_self_eq_true, qED0, qED1, placeR]
       rw [drawR_ok]; case h => simp (config := {decide := true}) [calm, calmPair, calmTwo, List.range, List.range.loop, sameO_refl, plg0, g]
       simp only [qES0, qES1, qES2, env0, List.length_cons, List.length_nil, Nat.reduceAdd, Nat.reduceSub, List.replicate, List.cons_append, List.nil_append, opd, Env.put, Env.at, List.set_cons_zero, List.set_cons_succ, List.getD_cons_zero, List.getD_cons_succ, freezeL, resVs, oneOr, Option.map_some, Option.map_none, List.map_cons, List.map_nil, if_true, if_false, Bool.not_true, Bool.not_false, Bool.false_eq_true, reduceIte, decide_true, decide_false, Int.reduceLT, Int.reduceLE, Int.reduceGT, Int.reduceGE, Int.reduceEq, Int.reduceBEq, Int.reduceBNe, load_ptr, ldV_some, cellAt_cells, List.getElem?_cons_zero, List.getElem?_cons_succ, store_ptr, stO_some, setAt_0, setAt_1, setAt_2, setAt_3, setAt_4, setAt_5, setAt_6, setAt_7, setAt_8, setAt_9, setAt_10, setAt_11, setAt_12, cells_int, cells_bool, cells_str, cells_nils, cells_nilp, cells_ptr, cells_sl, cells_u8, cells_u16, cells_agg, get_upd_is, Option.isSome_some, upd_upd, ev1_nchkV, ev1_faV, nchkV_ptr, faV_ptr, ev1_extV, extV_tup, eqptr_nil, eqptr_ptr, Nat.zero_add, Nat.add_zero, qPL0, qPL1, qPL2, qPL3, qPL4, qPL5, beq_self_eq_true, qED0, qED1, placeR]
       rfl)

theorem r55_f (k : Nat) (h : RT s w wo sz W T l) (hr : T.role = 1 ∨ T.role = 2) (seat count : Int) (cmd : Bool) (kind sort nr ns : Int) (pf : Bool) (body : List UInt8) (hk0 : ¬ kind < 1) (hk1 : ¬ kind > 2) (hc : cmd = (T.role == 2)) (hn0 : ¬ nr < 0) (hn1 : ¬ nr > 7) (hn : ns < 0) : ∃ s', evO (k + 1) 55 [.ptr w 0, .agg (plC seat count cmd kind sort nr ns pf body)] s = some (.tup [.str [], .bool false], s') ∧ RT s' w wo sz W T l := by
  have h1 := RT.new h (.cells 0 (plC seat count cmd kind sort nr ns pf body))
  have g : (s.pl [.cells 0 (plC seat count cmd kind sort nr ns pf body)]).get w = some (wC T sz wo) := h1.get
  refine ⟨s.pl [.cells 0 (plC seat count cmd kind sort nr ns pf body)], ?_, h1.drop⟩
  rw [evO_in rfl tab55]
  unfold wC at g
  unfold plC at *
  rw [show s = s.pl [] from rfl]
  have k1 : (kind < 1) = False := eq_false (by omega)
  have k2 : (kind > 2) = False := eq_false (by omega)
  have m1 : (nr < 0) = False := eq_false (by omega)
  have m2 : (nr > 7) = False := eq_false (by omega)
  have m3 : (ns < 0) = True := eq_true hn
  have b1 : ∀ c : Bool, eqAV (.flat (.one .b)) (.bool c) (.bool c) = some true := fun c => by cases c <;> rfl
  have b2 : ∀ c : Bool, eqAV (.flat (.one .b)) (.bool c) (.bool (!c)) = some false := fun c => by cases c <;> rfl
  have n22 : ((2 : Int) == 2) = true := rfl
  have n12 : ((1 : Int) == 2) = false := rfl
  rcases hr with hr | hr <;> cases cmd <;> rw [hr] at g hc <;> first
    | (exfalso; revert hc; simp; done)
    | (simp only [M55, g, k1, k2, m1, m2, m3, n22, n12, ev1_boxV, boxV_some, ev1_eqv, eqAV, eqFl, eqSc, eqptr_ptr, qES0, qES1, qES2, env0, List.length_cons, List.length_nil, Nat.reduceAdd, Nat.reduceSub, List.replicate, List.cons_append, List.nil_append, opd, Env.put, Env.at, List.set_cons_zero, List.set_cons_succ, List.getD_cons_zero, List.getD_cons_succ, freezeL, resVs, oneOr, Option.map_some, Option.map_none, List.map_cons, List.map_nil, if_true, if_false, Bool.not_true, Bool.not_false, Bool.false_eq_true, reduceIte, decide_true, decide_false, Int.reduceLT, Int.reduceLE, Int.reduceGT, Int.reduceGE, Int.reduceEq, Int.reduceBEq, Int.reduceBNe, load_ptr, ldV_some, cellAt_cells, List.getElem?_cons_zero, List.getElem?_cons_succ, store_ptr, stO_some, setAt_0, setAt_1, setAt_2, setAt_3, setAt_4, setAt_5, setAt_6, setAt_7, setAt_8, setAt_9, setAt_10, setAt_11, setAt_12, cells_int, cells_bool, cells_str, cells_nils, cells_nilp, cells_ptr, cells_sl, cells_u8, cells_u16, cells_agg, get_upd_is, Option.isSome_some, upd_upd, ev1_nchkV, ev1_faV, nchkV_ptr, faV_ptr, ev1_extV, extV_tup, eqptr_nil, eqptr_ptr, Nat.zero_add, Nat.add_zero, qPL0, qPL1, qPL2, qPL3, qPL4, qPL5, beq_self_eq_true, qED0, qED1, placeR]
       rw [drawR_ok]; case h => simp (config := {decide := true}) [calm, calmPair, calmTwo, List.range, List.range.loop, sameO_refl, plg0, g]
       simp only [qES0, qES1, qES2, env0, List.length_cons, List.length_nil, Nat.reduceAdd, Nat.reduceSub, List.replicate, List.cons_append, List.nil_append, opd, Env.put, Env.at, List.set_cons_zero, List.set_cons_succ, List.getD_cons_zero, List.getD_cons_succ, freezeL, resVs, oneOr, Option.map_some, Option.map_none, List.map_cons, List.map_nil, if_true, if_false, Bool.not_true, Bool.not_false, Bool.false_eq_true, reduceIte, decide_true, decide_false, Int.reduceLT, Int.reduceLE, Int.reduceGT, Int.reduceGE, Int.reduceEq, Int.reduceBEq, Int.reduceBNe, load_ptr, ldV_some, cellAt_cells, List.getElem?_cons_zero, List.getElem?_cons_succ, store_ptr, stO_some, setAt_0, setAt_1, setAt_2, setAt_3, setAt_4, setAt_5, setAt_6, setAt_7, setAt_8, setAt_9, setAt_10, setAt_11, setAt_12, cells_int, cells_bool, cells_str, cells_nils, cells_nilp, cells_ptr, cells_sl, cells_u8, cells_u16, cells_agg, get_upd_is, Option.isSome_some, upd_upd, ev1_nchkV, ev1_faV, nchkV_ptr, faV_ptr, ev1_extV, extV_tup, eqptr_nil, eqptr_ptr, Nat.zero_add, Nat.add_zero, qPL0, qPL1, qPL2, qPL3, qPL4, qPL5, beq_self_eq_true, qED0, qED1, placeR]
       rfl)

theorem r55_g (k : Nat) (h : RT s w wo sz W T l) (hr : T.role = 1 ∨ T.role = 2) (seat count : Int) (cmd : Bool) (kind sort nr ns : Int) (pf : Bool) (body : List UInt8) (hk0 : ¬ kind < 1) (hk1 : ¬ kind > 2) (hc : cmd = (T.role == 2)) (hn0 : ¬ nr < 0) (hn1 : ¬ nr > 7) (hn2 : ¬ ns < 0) (hn : ns > 7) : ∃ s', evO (k + 1) 55 [.ptr w 0, .agg (plC seat count cmd kind sort nr ns pf body)] s = some (.tup [.str [], .bool false], s') ∧ RT s' w wo sz W T l := by
  have h1 := RT.new h (.cells 0 (plC seat count cmd kind sort nr ns pf body))
  have g : (s.pl [.cells 0 (plC seat count cmd kind sort nr ns pf body)]).get w = some (wC T sz wo) := h1.get
  refine ⟨s.pl [.cells 0 (plC seat count cmd kind sort nr ns pf body)], ?_, h1.drop⟩
  rw [evO_in rfl tab55]
  unfold wC at g
  unfold plC at *
  rw [show s = s.pl [] from rfl]
  have k1 : (kind < 1) = False := eq_false (by omega)
  have k2 : (kind > 2) = False := eq_false (by omega)
  have m1 : (nr < 0) = False := eq_false (by omega)
  have m2 : (nr > 7) = False := eq_false (by omega)
  have m3 : (ns < 0) = False := eq_false (by omega)
  have m4 : (ns > 7) = True := eq_true hn
  have b1 : ∀ c : Bool, eqAV (.flat (.one .b)) (.bool c) (.bool c) = some true := fun c => by cases c <;> rfl
  have b2 : ∀ c : Bool, eqAV (.flat (.one .b)) (.bool c) (.bool (!c)) = some false := fun c => by cases c <;> rfl
  have n22 : ((2 : Int) == 2) = true := rfl
  have n12 : ((1 : Int) == 2) = false := rfl
  rcases hr with hr | hr <;> cases cmd <;> rw [hr] at g hc <;> first
    | (exfalso; revert hc; simp; done)
    | (simp only [M55, g, k1, k2, m1, m2, m3, m4, n22, n12, ev1_boxV, boxV_some, ev1_eqv, eqAV, eqFl, eqSc, eqptr_ptr, qES0, qES1, qES2, env0, List.length_cons, List.length_nil, Nat.reduceAdd, Nat.reduceSub, List.replicate, List.cons_append, List.nil_append, opd, Env.put, Env.at, List.set_cons_zero, List.set_cons_succ, List.getD_cons_zero, List.getD_cons_succ, freezeL, resVs, oneOr, Option.map_some, Option.map_none, List.map_cons, List.map_nil, if_true, if_false, Bool.not_true, Bool.not_false, Bool.false_eq_true, reduceIte, decide_true, decide_false, Int.reduceLT, Int.reduceLE, Int.reduceGT, Int.reduceGE, Int.reduceEq, Int.reduceBEq, Int.reduceBNe, load_ptr, ldV_some, cellAt_cells, List.getElem?_cons_zero, List.getElem?_cons_succ, store_ptr, stO_some, setAt_0, setAt_1, setAt_2, setAt_3, setAt_4, setAt_5, setAt_6, setAt_7, setAt_8, setAt_9, setAt_10, setAt_11, setAt_12, cells_int, cells_bool, cells_str, cells_nils, cells_nilp, cells_ptr, cells_sl, cells_u8, cells_u16, cells_agg, get_upd_is, Option.isSome_some, upd_upd, ev1_nchkV, ev1_faV, nchkV_ptr, faV_ptr, ev1_extV, extV_tup, eqptr_nil, eqptr_ptr, Nat.zero_add, Nat.add_zero, qPL0, qPL1, qPL2, qPL3, qPL4, qPL5, beq_self_eq_true, qED0, qED1, placeR]
       rw [drawR_ok]; case h => simp (config := {decide := true}) [calm, calmPair, calmTwo, List.range, List.range.loop, sameO_refl, plg0, g]
       simp only [qES0, qES1, qES2, env0, List.length_cons, List.length_nil, Nat.reduceAdd, Nat.reduceSub, List.replicate, List.cons_append, List.nil_append, opd, Env.put, Env.at, List.set_cons_zero, List.set_cons_succ, List.getD_cons_zero, List.getD_cons_succ, freezeL, resVs, oneOr, Option.map_some, Option.map_none, List.map_cons, List.map_nil, if_true, if_false, Bool.not_true, Bool.not_false, Bool.false_eq_true, reduceIte, decide_true, decide_false, Int.reduceLT, Int.reduceLE, Int.reduceGT, Int.reduceGE, Int.reduceEq, Int.reduceBEq, Int.reduceBNe, load_ptr, ldV_some, cellAt_cells, List.getElem?_cons_zero, List.getElem?_cons_succ, store_ptr, stO_some, setAt_0, setAt_1, setAt_2, setAt_3, setAt_4, setAt_5, setAt_6, setAt_7, setAt_8, setAt_9, setAt_10, setAt_11, setAt_12, cells_int, cells_bool, cells_str, cells_nils, cells_nilp, cells_ptr, cells_sl, cells_u8, cells_u16, cells_agg, get_upd_is, Option.isSome_some, upd_upd, ev1_nchkV, ev1_faV, nchkV_ptr, faV_ptr, ev1_extV, extV_tup, eqptr_nil, eqptr_ptr, Nat.zero_add, Nat.add_zero, qPL0, qPL1, qPL2, qPL3, qPL4, qPL5, beq_self_eq_true, qED0, qED1, placeR]
       rfl)

/-- Take. -/
theorem r55 (k : Nat) (h : RT s w wo sz W T l) (hr : T.role = 1 ∨ T.role = 2) (hn0 : 0 ≤ T.nx) (hn8 : T.nx < 8) (hf0 : 0 ≤ T.f) (hf8 : T.f < 8) (h8 : T.L.length ≤ 8) (hst : T.st ≤ 7) (hsL : T.st ≤ T.L.length) (seat count : Int) (p : Fm) (hc : p.cmd = (T.role == 2)) (hk : p.kind = 1 ∨ p.kind = 2) (r0 : 0 ≤ p.nr) (r7 : p.nr ≤ 7) (s0 : 0 ≤ p.ns) (s7 : p.ns ≤ 7) :
    ∃ s', evO (k + 22) 55 [.ptr w 0, .agg (plC seat count p.cmd p.kind p.sort p.nr p.ns p.pf p.body)] s = some (if T.tells p = true then .tup [.str p.body, .bool true] else .tup [.str [], .bool false], s') ∧ RT s' w wo sz W (T.took p) l := by
  have h1 : RT (s.pl [.cells 0 (plC seat count p.cmd p.kind p.sort p.nr p.ns p.pf p.body)]) w wo sz W T (cellPart s.next (.cells 0 (plC seat count p.cmd p.kind p.sort p.nr p.ns p.pf p.body)) :: l) := RT.new h (.cells 0 (plC seat count p.cmd p.kind p.sort p.nr p.ns p.pf p.body))
  have g1 : (s.pl [.cells 0 (plC seat count p.cmd p.kind p.sort p.nr p.ns p.pf p.body)]).get w = some (wC T sz wo) := h1.get
  obtain ⟨S2, v, a1, a2⟩ := r66 (k + 1) p.nr r0 r7 hf0 hf8 h1.out.head h8 hst hsL
  have h2 : RT S2 w wo sz W { T with L := if accepts p.nr T.f T.st then T.L.drop ((p.nr - T.f) % 8).toNat else T.L, f := if accepts p.nr T.f T.st then p.nr else T.f, st := if accepts p.nr T.f T.st then T.st - ((p.nr - T.f) % 8).toNat else T.st } (cellPart s.next (.cells 0 (plC seat count p.cmd p.kind p.sort p.nr p.ns p.pf p.body)) :: l) := (h1.out.routStep a1 (fun C hC => ⟨hC, trivial, trivial⟩) a2).swap
  have g2 := h2.get
  have gp2 : S2.get s.next = some (.cells 0 (plC seat count p.cmd p.kind p.sort p.nr p.ns p.pf p.body)) := (Apart.get h2 (by simp)).1
  have e : ∀ {α : Type} (x y : α), (if T.acc p.nr = true then x else y) = if accepts p.nr T.f T.st then x else y := fun x y => by
    by_cases hh : accepts p.nr T.f T.st
    · rw [if_pos hh, if_pos (show T.acc p.nr = true from decide_eq_true hh)]
    · rw [if_neg hh, if_neg (fun h2 : T.acc p.nr = true => hh (of_decide_eq_true h2))]
  have k1 : (p.kind < 1) = False := eq_false (by omega)
  have k2 : (p.kind > 2) = False := eq_false (by omega)
  have m1 : (p.nr < 0) = False := eq_false (by omega)
  have m2 : (p.nr > 7) = False := eq_false (by omega)
  have m3 : (p.ns < 0) = False := eq_false (by omega)
  have m4 : (p.ns > 7) = False := eq_false (by omega)
  have n22 : ((2 : Int) == 2) = true := rfl
  have n12 : ((1 : Int) == 2) = false := rfl
  have n21 : ((2 : Int) == 1) = false := rfl
  have n11 : ((1 : Int) == 1) = true := rfl
  have ta : (T.took p).L = (if accepts p.nr T.f T.st then T.L.drop ((p.nr - T.f) % 8).toNat else T.L) := by simp only [Tn.took, e]
  have tb : (T.took p).f = (if accepts p.nr T.f T.st then p.nr else T.f) := by simp only [Tn.took, e]
  have tc : (T.took p).st = (if accepts p.nr T.f T.st then T.st - ((p.nr - T.f) % 8).toNat else T.st) := by simp only [Tn.took, e]
  rw [show k + 1 + 20 = k + 21 from rfl] at a1
  rcases hk with hk | hk
  · obtain ⟨S3, b1, b2⟩ := r29 (k + 19) h2 hn0 hn8 p.ns p.body
    have g3 := b2.get
    have gp3 : S3.get s.next = some (.cells 0 (plC seat count p.cmd p.kind p.sort p.nr p.ns p.pf p.body)) := (Apart.get b2 (by simp)).1
    have h4 := b2.set (T.took p) ta tb tc
    refine ⟨_, ?_, h4.drop⟩
    rw [show k + 22 = (k + 21) + 1 from rfl, evO_in rfl tab55]
    have tt : T.tells p = decide (p.ns = T.nx) := by simp only [Tn.tells, hk, decide_true, Bool.true_and]
    have fz : (if T.tells p = true then AV.tup [.str p.body, .bool true] else AV.tup [.str [], .bool false]) = (if p.ns = T.nx then AV.tup [.str p.body, .bool true] else .tup [.str [], .bool false]) := by
      rw [tt]; by_cases hh : p.ns = T.nx <;> simp [hh]
    rw [fz]
    have tw : wC (T.took p) sz wo = .cells 0 [.int .i64 T.role, .int .i64 sz, .bool (T.mine || p.pf), .ptr wo 0, .int .i64 (if p.ns = T.nx then (T.nx + 1) % 8 else T.nx), .bool (!decide (p.ns = T.nx))] := by
      unfold wC; simp only [Tn.took, hk, if_true, true_and]
    rw [tw]
    simp only [wC] at g1 g2 g3
    simp only [plC, hk] at *
    obtain ⟨V, hV⟩ : ∃ V : AV, (if p.ns = T.nx then AV.tup [.str p.body, .bool true] else .tup [.str [], .bool false]) = V ∧ ∃ x y, V = .tup [.str x, .bool y] := by
      refine ⟨_, rfl, ?_⟩
      split
      · exact ⟨_, _, rfl⟩
      · exact ⟨_, _, rfl⟩
    obtain ⟨hV, x, y, rfl⟩ := hV
    rw [hV] at b1 ⊢
    rw [show s = s.pl [] from rfl]
    rw [show k + 19 + 2 = k + 21 from rfl] at b1
    rcases hr with hr | hr <;> rw [hr] at g1 g2 g3 hc <;> cases hm : T.mine <;> rw [hm] at g1 g2 g3 <;> cases hcm : p.cmd <;> rw [hcm] at hc g1 gp2 gp3 a1 <;> first
      | (exfalso; revert hc; simp; done)
      | (simp only [M55, g1, a1, k1, k2, m1, m2, m3, m4, n22, n12, n11, n21, ev1_boxV, boxV_some, ev1_eqv, eqAV, eqFl, eqSc, eqptr_ptr, qES0, qES1, qES2, env0, List.length_cons, List.length_nil, Nat.reduceAdd, Nat.reduceSub, List.replicate, List.cons_append, List.nil_append, opd, Env.put, Env.at, List.set_cons_zero, List.set_cons_succ, List.getD_cons_zero, List.getD_cons_succ, freezeL, resVs, oneOr, Option.map_some, Option.map_none, List.map_cons, List.map_nil, if_true, if_false, Bool.not_true, Bool.not_false, Bool.false_eq_true, reduceIte, decide_true, decide_false, Int.reduceLT, Int.reduceLE, Int.reduceGT, Int.reduceGE, Int.reduceEq, Int.reduceBEq, Int.reduceBNe, load_ptr, ldV_some, cellAt_cells, List.getElem?_cons_zero, List.getElem?_cons_succ, store_ptr, stO_some, setAt_0, setAt_1, setAt_2, setAt_3, setAt_4, setAt_5, setAt_6, setAt_7, setAt_8, setAt_9, setAt_10, setAt_11, setAt_12, cells_int, cells_bool, cells_str, cells_nils, cells_nilp, cells_ptr, cells_sl, cells_u8, cells_u16, cells_agg, get_upd_is, Option.isSome_some, upd_upd, ev1_nchkV, ev1_faV, nchkV_ptr, faV_ptr, ev1_extV, extV_tup, eqptr_nil, eqptr_ptr, Nat.zero_add, Nat.add_zero, qPL0, qPL1, qPL2, qPL3, qPL4, qPL5, beq_self_eq_true, qED0, qED1, placeR]
         rw [drawR_ok]; case h => simp (config := {decide := true}) [calm, calmPair, calmTwo, List.range, List.range.loop, sameO_refl, plg0, g1]
         simp only [g1, a1, g2, gp2, b1, n22, n12, n11, n21, ev1_boxV, boxV_some, ev1_eqv, eqAV, eqFl, eqSc, eqptr_ptr, qES0, qES1, qES2, env0, List.length_cons, List.length_nil, Nat.reduceAdd, Nat.reduceSub, List.replicate, List.cons_append, List.nil_append, opd, Env.put, Env.at, List.set_cons_zero, List.set_cons_succ, List.getD_cons_zero, List.getD_cons_succ, freezeL, resVs, oneOr, Option.map_some, Option.map_none, List.map_cons, List.map_nil, if_true, if_false, Bool.not_true, Bool.not_false, Bool.false_eq_true, reduceIte, decide_true, decide_false, Int.reduceLT, Int.reduceLE, Int.reduceGT, Int.reduceGE, Int.reduceEq, Int.reduceBEq, Int.reduceBNe, load_ptr, ldV_some, cellAt_cells, List.getElem?_cons_zero, List.getElem?_cons_succ, store_ptr, stO_some, setAt_0, setAt_1, setAt_2, setAt_3, setAt_4, setAt_5, setAt_6, setAt_7, setAt_8, setAt_9, setAt_10, setAt_11, setAt_12, cells_int, cells_bool, cells_str, cells_nils, cells_nilp, cells_ptr, cells_sl, cells_u8, cells_u16, cells_agg, get_upd_is, Option.isSome_some, upd_upd, ev1_nchkV, ev1_faV, nchkV_ptr, faV_ptr, ev1_extV, extV_tup, eqptr_nil, eqptr_ptr, Nat.zero_add, Nat.add_zero, qPL0, qPL1, qPL2, qPL3, qPL4, qPL5, beq_self_eq_true, qED0, qED1, placeR]
         rw [drawR_ok]; case h => simp (config := {decide := true}) [calm, calmPair, calmTwo, List.range, List.range.loop, sameO_refl, plg0, g1, g2, gp2]
         simp only [g1, a1, g2, gp2, b1, n22, n12, n11, n21, ev1_boxV, boxV_some, ev1_eqv, eqAV, eqFl, eqSc, eqptr_ptr, qES0, qES1, qES2, env0, List.length_cons, List.length_nil, Nat.reduceAdd, Nat.reduceSub, List.replicate, List.cons_append, List.nil_append, opd, Env.put, Env.at, List.set_cons_zero, List.set_cons_succ, List.getD_cons_zero, List.getD_cons_succ, freezeL, resVs, oneOr, Option.map_some, Option.map_none, List.map_cons, List.map_nil, if_true, if_false, Bool.not_true, Bool.not_false, Bool.false_eq_true, reduceIte, decide_true, decide_false, Int.reduceLT, Int.reduceLE, Int.reduceGT, Int.reduceGE, Int.reduceEq, Int.reduceBEq, Int.reduceBNe, load_ptr, ldV_some, cellAt_cells, List.getElem?_cons_zero, List.getElem?_cons_succ, store_ptr, stO_some, setAt_0, setAt_1, setAt_2, setAt_3, setAt_4, setAt_5, setAt_6, setAt_7, setAt_8, setAt_9, setAt_10, setAt_11, setAt_12, cells_int, cells_bool, cells_str, cells_nils, cells_nilp, cells_ptr, cells_sl, cells_u8, cells_u16, cells_agg, get_upd_is, Option.isSome_some, upd_upd, ev1_nchkV, ev1_faV, nchkV_ptr, faV_ptr, ev1_extV, extV_tup, eqptr_nil, eqptr_ptr, Nat.zero_add, Nat.add_zero, qPL0, qPL1, qPL2, qPL3, qPL4, qPL5, beq_self_eq_true, qED0, qED1, placeR]
         rw [drawR_ok]; case h => simp (config := {decide := true}) [calm, calmPair, calmTwo, List.range, List.range.loop, sameO_refl, plg0, g2, gp2, g3, gp3]
         simp only [g3, gp3, hr, Bool.true_or, Bool.false_or, qES0, qES1, qES2, env0, List.length_cons, List.length_nil, Nat.reduceAdd, Nat.reduceSub, List.replicate, List.cons_append, List.nil_append, opd, Env.put, Env.at, List.set_cons_zero, List.set_cons_succ, List.getD_cons_zero, List.getD_cons_succ, freezeL, resVs, oneOr, Option.map_some, Option.map_none, List.map_cons, List.map_nil, if_true, if_false, Bool.not_true, Bool.not_false, Bool.false_eq_true, reduceIte, decide_true, decide_false, Int.reduceLT, Int.reduceLE, Int.reduceGT, Int.reduceGE, Int.reduceEq, Int.reduceBEq, Int.reduceBNe, load_ptr, ldV_some, cellAt_cells, List.getElem?_cons_zero, List.getElem?_cons_succ, store_ptr, stO_some, setAt_0, setAt_1, setAt_2, setAt_3, setAt_4, setAt_5, setAt_6, setAt_7, setAt_8, setAt_9, setAt_10, setAt_11, setAt_12, cells_int, cells_bool, cells_str, cells_nils, cells_nilp, cells_ptr, cells_sl, cells_u8, cells_u16, cells_agg, get_upd_is, Option.isSome_some, upd_upd, ev1_nchkV, ev1_faV, nchkV_ptr, faV_ptr, ev1_extV, extV_tup, eqptr_nil, eqptr_ptr, Nat.zero_add, Nat.add_zero, qPL0, qPL1, qPL2, qPL3, qPL4, qPL5, beq_self_eq_true, qED0, qED1, placeR])
  · have h4 := h2.set (T.took p) ta tb tc
    refine ⟨_, ?_, h4.drop⟩
    rw [show k + 22 = (k + 21) + 1 from rfl, evO_in rfl tab55]
    have tt : T.tells p = false := by simp only [Tn.tells, hk]; rfl
    rw [if_neg (by rw [tt]; simp)]
    have tw : wC (T.took p) sz wo = .cells 0 [.int .i64 T.role, .int .i64 sz, .bool (T.mine || p.pf), .ptr wo 0, .int .i64 T.nx, .bool T.od] := by
      unfold wC; simp only [Tn.took, hk]; simp
    rw [tw]
    simp only [wC] at g1 g2
    simp only [plC, hk] at *
    rw [show s = s.pl [] from rfl]
    rcases hr with hr | hr <;> rw [hr] at g1 g2 hc <;> cases hm : T.mine <;> rw [hm] at g1 g2 <;> cases hcm : p.cmd <;> rw [hcm] at hc g1 gp2 a1 <;> first
      | (exfalso; revert hc; simp; done)
      | (simp only [M55, g1, a1, k1, k2, m1, m2, m3, m4, n22, n12, n11, n21, ev1_boxV, boxV_some, ev1_eqv, eqAV, eqFl, eqSc, eqptr_ptr, qES0, qES1, qES2, env0, List.length_cons, List.length_nil, Nat.reduceAdd, Nat.reduceSub, List.replicate, List.cons_append, List.nil_append, opd, Env.put, Env.at, List.set_cons_zero, List.set_cons_succ, List.getD_cons_zero, List.getD_cons_succ, freezeL, resVs, oneOr, Option.map_some, Option.map_none, List.map_cons, List.map_nil, if_true, if_false, Bool.not_true, Bool.not_false, Bool.false_eq_true, reduceIte, decide_true, decide_false, Int.reduceLT, Int.reduceLE, Int.reduceGT, Int.reduceGE, Int.reduceEq, Int.reduceBEq, Int.reduceBNe, load_ptr, ldV_some, cellAt_cells, List.getElem?_cons_zero, List.getElem?_cons_succ, store_ptr, stO_some, setAt_0, setAt_1, setAt_2, setAt_3, setAt_4, setAt_5, setAt_6, setAt_7, setAt_8, setAt_9, setAt_10, setAt_11, setAt_12, cells_int, cells_bool, cells_str, cells_nils, cells_nilp, cells_ptr, cells_sl, cells_u8, cells_u16, cells_agg, get_upd_is, Option.isSome_some, upd_upd, ev1_nchkV, ev1_faV, nchkV_ptr, faV_ptr, ev1_extV, extV_tup, eqptr_nil, eqptr_ptr, Nat.zero_add, Nat.add_zero, qPL0, qPL1, qPL2, qPL3, qPL4, qPL5, beq_self_eq_true, qED0, qED1, placeR]
         rw [drawR_ok]; case h => simp (config := {decide := true}) [calm, calmPair, calmTwo, List.range, List.range.loop, sameO_refl, plg0, g1]
         simp only [g1, a1, g2, gp2, n22, n12, n11, n21, ev1_boxV, boxV_some, ev1_eqv, eqAV, eqFl, eqSc, eqptr_ptr, qES0, qES1, qES2, env0, List.length_cons, List.length_nil, Nat.reduceAdd, Nat.reduceSub, List.replicate, List.cons_append, List.nil_append, opd, Env.put, Env.at, List.set_cons_zero, List.set_cons_succ, List.getD_cons_zero, List.getD_cons_succ, freezeL, resVs, oneOr, Option.map_some, Option.map_none, List.map_cons, List.map_nil, if_true, if_false, Bool.not_true, Bool.not_false, Bool.false_eq_true, reduceIte, decide_true, decide_false, Int.reduceLT, Int.reduceLE, Int.reduceGT, Int.reduceGE, Int.reduceEq, Int.reduceBEq, Int.reduceBNe, load_ptr, ldV_some, cellAt_cells, List.getElem?_cons_zero, List.getElem?_cons_succ, store_ptr, stO_some, setAt_0, setAt_1, setAt_2, setAt_3, setAt_4, setAt_5, setAt_6, setAt_7, setAt_8, setAt_9, setAt_10, setAt_11, setAt_12, cells_int, cells_bool, cells_str, cells_nils, cells_nilp, cells_ptr, cells_sl, cells_u8, cells_u16, cells_agg, get_upd_is, Option.isSome_some, upd_upd, ev1_nchkV, ev1_faV, nchkV_ptr, faV_ptr, ev1_extV, extV_tup, eqptr_nil, eqptr_ptr, Nat.zero_add, Nat.add_zero, qPL0, qPL1, qPL2, qPL3, qPL4, qPL5, beq_self_eq_true, qED0, qED1, placeR]
         rw [drawR_ok]; case h => simp (config := {decide := true}) [calm, calmPair, calmTwo, List.range, List.range.loop, sameO_refl, plg0, g1, g2, gp2]
         simp only [g1, a1, g2, gp2, hr, n22, n12, n11, n21, Bool.true_or, Bool.false_or, ev1_boxV, boxV_some, ev1_eqv, eqAV, eqFl, eqSc, eqptr_ptr, qES0, qES1, qES2, env0, List.length_cons, List.length_nil, Nat.reduceAdd, Nat.reduceSub, List.replicate, List.cons_append, List.nil_append, opd, Env.put, Env.at, List.set_cons_zero, List.set_cons_succ, List.getD_cons_zero, List.getD_cons_succ, freezeL, resVs, oneOr, Option.map_some, Option.map_none, List.map_cons, List.map_nil, if_true, if_false, Bool.not_true, Bool.not_false, Bool.false_eq_true, reduceIte, decide_true, decide_false, Int.reduceLT, Int.reduceLE, Int.reduceGT, Int.reduceGE, Int.reduceEq, Int.reduceBEq, Int.reduceBNe, load_ptr, ldV_some, cellAt_cells, List.getElem?_cons_zero, List.getElem?_cons_succ, store_ptr, stO_some, setAt_0, setAt_1, setAt_2, setAt_3, setAt_4, setAt_5, setAt_6, setAt_7, setAt_8, setAt_9, setAt_10, setAt_11, setAt_12, cells_int, cells_bool, cells_str, cells_nils, cells_nilp, cells_ptr, cells_sl, cells_u8, cells_u16, cells_agg, get_upd_is, Option.isSome_some, upd_upd, ev1_nchkV, ev1_faV, nchkV_ptr, faV_ptr, ev1_extV, extV_tup, eqptr_nil, eqptr_ptr, Nat.zero_add, Nat.add_zero, qPL0, qPL1, qPL2, qPL3, qPL4, qPL5, beq_self_eq_true, qED0, qED1, placeR])
end
end Go.Proofs.YtochnineebgbgaaDoor
