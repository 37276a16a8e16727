/- glowwormref4.GetCtl: what each byte is as a control. No conditions. -/
import Derived.Test.YthcblggiojpmcaaDoorL3
set_option linter.unusedSimpArgs false
set_option linter.unusedVariables false
set_option maxRecDepth 100000
namespace Go.Proofs.YthcblggiojpmcaaDoor
open Go Go.Ab
def Ct.pn (c : Ct) : Pn := ⟨0, 0, false, c.kind, c.sort, c.nr, c.ns, c.pf, []⟩
/-- What is tried. -/
def tryP (n : Nat) (k j i : Int) : Pn := ⟨0, 0, false, k, j, if k < 3 then ((n / 32 : Nat) : Int) else 0, if k = 1 then ((n / 2 % 8 : Nat) : Int) else 0, i == 1, []⟩
def Hit (n : Nat) (k j i : Int) : Prop := (tryP n k j i).okc = true ∧ (tryP n k j i).ctl.num = n
theorem pn_of_exact (p : Pn) (h : p.ctl.is = true) (hx : p.exact = true) (h0 : p.seat = 0) (h1 : p.count = 0) (h2 : p.cmd = false) (h3 : p.body = []) : p = p.ctl.pn := by
  obtain ⟨seat, count, cmd, kind, sort, nr, ns, pf, body⟩ := p
  simp only at h0 h1 h2 h3
  subst h0 h1 h2 h3
  simp only [Pn.ctl, Pn.exact, any1] at h hx ⊢
  by_cases h1 : kind = 1
  · subst h1; simp at hx; subst hx; rfl
  · by_cases h2 : kind = 2
    · subst h2; simp at hx; subst hx; rfl
    · by_cases h3 : kind = 3
      · subst h3; simp at hx; obtain ⟨rfl, rfl⟩ := hx; rfl
      · rw [if_neg h1, if_neg h2, if_neg h3] at h; cases h
theorem hit_is {n : Nat} {k j i : Int} (h : Hit n k j i) : (gct n).is = true ∧ tryP n k j i = (gct n).pn := by
  obtain ⟨h1, h2⟩ := h
  simp only [Pn.okc, Bool.and_eq_true] at h1
  have h3 := gct_num _ h1.1
  rw [h2, Int.toNat_natCast] at h3
  rw [h3]
  exact ⟨may_is h1.1, pn_of_exact _ (may_is h1.1) h1.2 rfl rfl rfl rfl⟩
theorem hit_all : ∀ n, n < 256 → (gct n).is = true → ((gct n).kind = 1 ∨ (gct n).kind = 2 ∨ (gct n).kind = 3) ∧ (∃ j, j < 8 ∧ (gct n).sort = (j : Nat)) ∧ (tryP n (gct n).kind (gct n).sort (if (gct n).pf = true then 1 else 0)).okc = true ∧ (tryP n (gct n).kind (gct n).sort (if (gct n).pf = true then 1 else 0)).ctl.num = n := by decide +kernel
def zero9 : List AV := [.int .i64 0, .int .i64 0, .bool false, .int .i64 0, .int .i64 0, .int .i64 0, .int .i64 0, .bool false, .str []]
def InvR (R : Nat) (S : St) : Prop := R < S.next ∧ S.get R = some (.cells 0 zero9)
theorem InvR.pl {R : Nat} {S : St} (h : InvR R S) (l : List Ab.Obj) : InvR R (S.pl l) := ⟨Nat.lt_of_lt_of_le h.1 (pl_ext S l).le, ((pl_ext S l).get R h.1).trans h.2⟩
/-- The outcome where it was found. -/
def Found (n R : Nat) (out : Out) : Prop := ∃ e' S', out = some (.ret, e', S') ∧ e'.at 3 = .bool true ∧ e'.at 2 = .ptr R 0 ∧ S'.get R = some (.cells 0 (gct n).pn.cells) ∧ (gct n).is = true
theorem Found.not_nrm {n R : Nat} {out : Out} (h : Found n R out) : ∀ e' s', out ≠ some (.nrm, e', s') := by
  rintro e' s' rfl
  obtain ⟨_, _, h1, _⟩ := h
  cases h1
theorem e34 (k : Nat) (p : Pn) (s : St) : evL3 (k + 1) 34 [.agg p.cells] s = some (if p.okc = true then .tup [.int .u8 p.ctl.num, .bool true] else .tup [.int .u8 0, .bool false], s) := evF_ext (H := hRCtl) rfl rfl
theorem e33 (k : Nat) (p : Pn) (s : St) : evL3 (k + 1) 33 [.agg p.cells] s = some (p.ctl.av, s) := evF_ext (H := hAny1) rfl rfl
def E0 (n R : Nat) (k j i : Int) : Env := [.int .u8 n, .undef, .ptr R 0, .undef, .int .i64 k, .int .i64 j, .int .i64 i, .undef, .undef, .undef, .undef, .undef, .undef, .undef, .undef, .undef, .undef, .undef, .undef, .undef, .undef, .undef, .undef, .undef, .undef, .undef, .undef, .undef, .undef, .undef, .undef, .undef, .undef, .undef, .undef, .undef, .undef, .undef, .undef, .undef, .undef, .undef, .undef, .undef, .undef, .undef, .undef, .undef, .undef, .undef, .undef, .undef, .undef]
theorem round0 (n R : Nat) (hn : n < 256) (k j i : Int) (hk : k = 1 ∨ k = 2 ∨ k = 3) (hi : i = 0 ∨ i = 1) (S : St) (hS : InvR R S) :
    (¬ Hit n k j i ∧ ∃ e' S', evC tabGl (evL3 999) 999 M39b0 (E0 n R k j i) (S.pl []) = some (.nrm, e', S') ∧ maskE M39b0l e' = E0 n R k j (i + 1) ∧ InvR R S') ∨ Found n R (evC tabGl (evL3 999) 999 M39b0 (E0 n R k j i) (S.pl [])) := by
  have h34 := e34 998 (tryP n k j i)
  have u1 := u8_quo n 32 (by omega)
  have u2 := u8_quo n 2 (by omega)
  have w1 : IntKind.u8.wrap ((n : Int).tdiv 32) = ((n / 32 : Nat) : Int) := by
    have : (n : Int).tdiv 32 = ((n / 32 : Nat) : Int) := rfl
    rw [this, u8_wrap _ (by omega) (by omega)]
  have w2 : IntKind.u8.wrap ((n : Int).tdiv 2) = ((n / 2 : Nat) : Int) := by
    have : (n : Int).tdiv 2 = ((n / 2 : Nat) : Int) := rfl
    rw [this, u8_wrap _ (by omega) (by omega)]
  have w3 : IntKind.i64.wrap ((n / 32 : Nat) : Int) = ((n / 32 : Nat) : Int) := wrapI _ (by omega) (by omega)
  have w4 : IntKind.i64.wrap ((n / 2 : Nat) : Int) = ((n / 2 : Nat) : Int) := wrapI _ (by omega) (by omega)
  have u3 := i64_rem ((n / 2 : Nat) : Int) 8 (by omega)
  have w5 : ((n / 2 : Nat) : Int).tmod 8 = ((n / 2 % 8 : Nat) : Int) := rfl
  rw [w5] at u3
  have a1 : IntKind.i64.wrap (0 + 1) = 0 + 1 := rfl
  have a2 : IntKind.i64.wrap (1 + 1) = 1 + 1 := rfl
  have hR := fun A => ((hS.pl [A]).2)
  simp only [zero9] at hR
  have b1 : ((0 : Int) == 1) = false := rfl
  have b2 : ((2 : Int) == 1) = false := rfl
  have b3 : ((3 : Int) == 1) = false := rfl
  by_cases hok : (tryP n k j i).okc = true
  · simp only [hok, if_true] at h34
    by_cases hnum : (tryP n k j i).ctl.num = n
    · right
      obtain ⟨q1, q2⟩ := hit_is ⟨hok, hnum⟩
      unfold Found
      rw [← q2]
      rw [hnum] at h34
      have hfin : ∀ o A, ((S.pl [A]).upd R o).get R = some o := fun o A => get_upd_eq _ _ (hR A)
      clear q2 hok hnum
      rcases hk with rfl | rfl | rfl <;> rcases hi with rfl | rfl <;>
      · simp only [tryP, Pn.cells, if_true, if_false, Int.reduceLT, Int.reduceEq, b1, b2, b3, beq_self_eq_true] at h34 ⊢
        simp only [M39b0, E0, h34, u1, u2, u3, w1, w2, w3, w4, u8_eq, b1, b2, b3, hR, qES0, qES1, qES2, env0, List.length_cons, List.length_nil, Nat.reduceAdd, Nat.reduceSub, List.replicate, List.cons_append, List.nil_append, opd, Env.put, Env.at, List.set_cons_zero, List.set_cons_succ, List.getD_cons_zero, List.getD_cons_succ, freezeL, resVs, oneOr, Option.map_some, Option.map_none, List.map_cons, List.map_nil, if_true, if_false, Bool.not_true, Bool.not_false, Bool.false_eq_true, reduceIte, decide_true, decide_false, Int.reduceLT, Int.reduceLE, Int.reduceGT, Int.reduceGE, Int.reduceEq, Int.reduceBEq, Int.reduceBNe, load_ptr, ldV_some, cellAt_cells, List.getElem?_cons_zero, List.getElem?_cons_succ, store_ptr, stO_some, setAt_0, setAt_1, setAt_2, setAt_3, setAt_4, setAt_5, setAt_6, setAt_7, setAt_8, setAt_9, setAt_10, setAt_11, setAt_12, cells_int, cells_bool, cells_str, cells_nils, cells_nilp, cells_ptr, cells_sl, cells_u8, cells_u16, cells_agg, get_upd_is, Option.isSome_some, upd_upd, ev1_nchkV, ev1_faV, nchkV_ptr, faV_ptr, ev1_extV, extV_tup, eqptr_nil, eqptr_ptr, Nat.zero_add, Nat.add_zero, qPL0, qPL1, qPL2, qPL3, qPL4, qPL5, beq_self_eq_true]
        exact ⟨_, _, rfl, rfl, rfl, hfin _ _, q1⟩
    · left
      refine ⟨fun h => hnum h.2, ?_⟩
      have hne : ((tryP n k j i).ctl.num == (n : Int)) = false := beq_eq_false_iff_ne.2 hnum
      clear hok hnum
      generalize (tryP n k j i).ctl.num = m at h34 hne
      rcases hk with rfl | rfl | rfl <;> rcases hi with rfl | rfl <;>
      · simp only [tryP, Pn.cells, if_true, if_false, Int.reduceLT, Int.reduceEq, b1, b2, b3, beq_self_eq_true] at h34 ⊢
        simp only [M39b0, E0, h34, u1, u2, u3, w1, w2, w3, w4, a1, a2, u8_eq, hne, b1, b2, b3, hR, qES0, qES1, qES2, env0, List.length_cons, List.length_nil, Nat.reduceAdd, Nat.reduceSub, List.replicate, List.cons_append, List.nil_append, opd, Env.put, Env.at, List.set_cons_zero, List.set_cons_succ, List.getD_cons_zero, List.getD_cons_succ, freezeL, resVs, oneOr, Option.map_some, Option.map_none, List.map_cons, List.map_nil, if_true, if_false, Bool.not_true, Bool.not_false, Bool.false_eq_true, reduceIte, decide_true, decide_false, Int.reduceLT, Int.reduceLE, Int.reduceGT, Int.reduceGE, Int.reduceEq, Int.reduceBEq, Int.reduceBNe, load_ptr, ldV_some, cellAt_cells, List.getElem?_cons_zero, List.getElem?_cons_succ, store_ptr, stO_some, setAt_0, setAt_1, setAt_2, setAt_3, setAt_4, setAt_5, setAt_6, setAt_7, setAt_8, setAt_9, setAt_10, setAt_11, setAt_12, cells_int, cells_bool, cells_str, cells_nils, cells_nilp, cells_ptr, cells_sl, cells_u8, cells_u16, cells_agg, get_upd_is, Option.isSome_some, upd_upd, ev1_nchkV, ev1_faV, nchkV_ptr, faV_ptr, ev1_extV, extV_tup, eqptr_nil, eqptr_ptr, Nat.zero_add, Nat.add_zero, qPL0, qPL1, qPL2, qPL3, qPL4, qPL5, beq_self_eq_true]
        exact ⟨_, _, rfl, rfl, hS.pl _⟩
  · left
    refine ⟨fun h => hok h.1, ?_⟩
    simp only [hok, if_false, Bool.false_eq_true] at h34
    clear hok
    rcases hk with rfl | rfl | rfl <;> rcases hi with rfl | rfl <;>
    · simp only [tryP, Pn.cells, if_true, if_false, Int.reduceLT, Int.reduceEq, b1, b2, b3, beq_self_eq_true] at h34 ⊢
      simp only [M39b0, E0, h34, u1, u2, u3, w1, w2, w3, w4, a1, a2, u8_eq, b1, b2, b3, hR, qES0, qES1, qES2, env0, List.length_cons, List.length_nil, Nat.reduceAdd, Nat.reduceSub, List.replicate, List.cons_append, List.nil_append, opd, Env.put, Env.at, List.set_cons_zero, List.set_cons_succ, List.getD_cons_zero, List.getD_cons_succ, freezeL, resVs, oneOr, Option.map_some, Option.map_none, List.map_cons, List.map_nil, if_true, if_false, Bool.not_true, Bool.not_false, Bool.false_eq_true, reduceIte, decide_true, decide_false, Int.reduceLT, Int.reduceLE, Int.reduceGT, Int.reduceGE, Int.reduceEq, Int.reduceBEq, Int.reduceBNe, load_ptr, ldV_some, cellAt_cells, List.getElem?_cons_zero, List.getElem?_cons_succ, store_ptr, stO_some, setAt_0, setAt_1, setAt_2, setAt_3, setAt_4, setAt_5, setAt_6, setAt_7, setAt_8, setAt_9, setAt_10, setAt_11, setAt_12, cells_int, cells_bool, cells_str, cells_nils, cells_nilp, cells_ptr, cells_sl, cells_u8, cells_u16, cells_agg, get_upd_is, Option.isSome_some, upd_upd, ev1_nchkV, ev1_faV, nchkV_ptr, faV_ptr, ev1_extV, extV_tup, eqptr_nil, eqptr_ptr, Nat.zero_add, Nat.add_zero, qPL0, qPL1, qPL2, qPL3, qPL4, qPL5, beq_self_eq_true]
      exact ⟨_, _, rfl, rfl, hS.pl _⟩
theorem Found.seq {n R : Nat} {out : Out} (h : Found n R out) (f : Env → St → Out) : Found n R (seqR out f) := by
  obtain ⟨e', S', h1, h2⟩ := h
  exact ⟨e', S', by rw [h1, seqR_ret], h2⟩
theorem Found.block {n R : Nat} {out : Out} (h : Found n R out) (i : Nat) : Found n R (blockR i out) := by
  obtain ⟨e', S', h1, h2⟩ := h
  exact ⟨e', S', by rw [h1]; rfl, h2⟩
def E1 (n R : Nat) (k j : Int) : Env := [.int .u8 n, .undef, .ptr R 0, .undef, .int .i64 k, .int .i64 j, .int .i64 2, .undef, .undef, .undef, .undef, .undef, .undef, .undef, .undef, .undef, .undef, .undef, .int .i64 2, .bool false, .undef, .undef, .undef, .undef, .undef, .undef, .undef, .undef, .undef, .undef, .undef, .undef, .undef, .undef, .undef, .undef, .undef, .undef, .undef, .undef, .undef, .undef, .undef, .undef, .undef, .undef, .undef, .undef, .undef, .undef, .undef, .undef, .undef]
def Em (n R : Nat) (k j : Int) : Env := [.int .u8 n, .undef, .ptr R 0, .undef, .int .i64 k, .int .i64 j, .undef, .undef, .undef, .undef, .undef, .undef, .undef, .undef, .undef, .undef, .undef, .undef, .undef, .undef, .undef, .undef, .undef, .undef, .undef, .undef, .undef, .undef, .undef, .undef, .undef, .undef, .undef, .undef, .undef, .undef, .undef, .undef, .undef, .undef, .undef, .undef, .undef, .undef, .undef, .undef, .undef, .undef, .undef, .undef, .undef, .undef, .undef]
def Em0 (n R : Nat) (k j : Int) : Env := [.int .u8 n, .undef, .ptr R 0, .undef, .int .i64 k, .int .i64 j, .int .i64 0, .undef, .undef, .undef, .undef, .undef, .undef, .undef, .int .i64 j, .bool true, .undef, .undef, .undef, .undef, .undef, .undef, .undef, .undef, .undef, .undef, .undef, .undef, .undef, .undef, .undef, .undef, .undef, .undef, .undef, .undef, .undef, .undef, .undef, .undef, .undef, .undef, .undef, .undef, .undef, .undef, .undef, .undef, .undef, .undef, .undef, .undef, .undef]
def Em8 (n R : Nat) (k : Int) : Env := [.int .u8 n, .undef, .ptr R 0, .undef, .int .i64 k, .int .i64 8, .undef, .undef, .undef, .undef, .undef, .undef, .undef, .undef, .int .i64 8, .bool false, .undef, .undef, .undef, .undef, .undef, .undef, .undef, .undef, .undef, .undef, .undef, .undef, .undef, .undef, .undef, .undef, .undef, .undef, .undef, .undef, .undef, .undef, .undef, .undef, .undef, .undef, .undef, .undef, .undef, .undef, .undef, .undef, .undef, .undef, .undef, .undef, .undef]
def Eo (n R : Nat) (k : Int) : Env := [.int .u8 n, .undef, .ptr R 0, .undef, .int .i64 k, .undef, .undef, .undef, .undef, .undef, .undef, .undef, .undef, .undef, .undef, .undef, .undef, .undef, .undef, .undef, .undef, .undef, .undef, .undef, .undef, .undef, .undef, .undef, .undef, .undef, .undef, .undef, .undef, .undef, .undef, .undef, .undef, .undef, .undef, .undef, .undef, .undef, .undef, .undef, .undef, .undef, .undef, .undef, .undef, .undef, .undef, .undef, .undef]
def Eo0 (n R : Nat) (k : Int) : Env := [.int .u8 n, .undef, .ptr R 0, .undef, .int .i64 k, .int .i64 0, .undef, .undef, .undef, .undef, .int .i64 k, .bool true, .undef, .undef, .undef, .undef, .undef, .undef, .undef, .undef, .undef, .undef, .undef, .undef, .undef, .undef, .undef, .undef, .undef, .undef, .undef, .undef, .undef, .undef, .undef, .undef, .undef, .undef, .undef, .undef, .undef, .undef, .undef, .undef, .undef, .undef, .undef, .undef, .undef, .undef, .undef, .undef, .undef]
def Eo4 (n R : Nat) : Env := [.int .u8 n, .undef, .ptr R 0, .undef, .int .i64 4, .undef, .undef, .undef, .undef, .undef, .int .i64 4, .bool false, .undef, .undef, .undef, .undef, .undef, .undef, .undef, .undef, .undef, .undef, .undef, .undef, .undef, .undef, .undef, .undef, .undef, .undef, .undef, .undef, .undef, .undef, .undef, .undef, .undef, .undef, .undef, .undef, .undef, .undef, .undef, .undef, .undef, .undef, .undef, .undef, .undef, .undef, .undef, .undef, .undef]
theorem inner (n R : Nat) (hn : n < 256) (k j : Int) (hk : k = 1 ∨ k = 2 ∨ k = 3) (S : St) (hS : InvR R S) (e : Env) (he : maskE M39b0l e = E0 n R k j 0) :
    Found n R (iter (evC tabGl (evL3 999) 999 M39b0) M39b0l 999 e S) ∨ ((∀ i, (i = 0 ∨ i = 1) → ¬ Hit n k j i) ∧ ∃ S', iter (evC tabGl (evL3 999) 999 M39b0) M39b0l 999 e S = some (.exit 4, E1 n R k j, S') ∧ InvR R S') := by
  rw [show (999 : Nat) = 998 + 1 from rfl, iter_succ, he]
  rcases round0 n R hn k j 0 hk (.inl rfl) S hS with ⟨n0, e1, S1, h1, h2, h3⟩ | hf
  rotate_left
  · exact .inl (Found.seq hf _)
  have h1' : evC tabGl (evL3 (998 + 1)) (998 + 1) M39b0 (E0 n R k j 0) S = some (.nrm, e1, S1) := h1
  rw [h1', seqR_nrm, show (998 : Nat) = 997 + 1 from rfl, iter_succ, h2]
  rcases round0 n R hn k j 1 hk (.inr rfl) S1 h3 with ⟨n1, e2, S2, g1, g2, g3⟩ | hf
  rotate_left
  · exact .inl (Found.seq hf _)
  have g1' : evC tabGl (evL3 (997 + 1 + 1)) (997 + 1 + 1) M39b0 (E0 n R k j (0 + 1)) S1 = some (.nrm, e2, S2) := g1
  rw [g1', seqR_nrm, show (997 : Nat) = 996 + 1 from rfl, iter_succ, g2]
  have hx : evC tabGl (evL3 (996 + 1 + 1 + 1)) (996 + 1 + 1 + 1) M39b0 (E0 n R k j (1 + 1)) S2 = some (.exit 4, E1 n R k j, S2) := by
    show evC tabGl (evL3 999) 999 M39b0 (E0 n R k j 2) S2 = _
    simp only [M39b0, E0, E1, qES0, qES1, qES2, env0, List.length_cons, List.length_nil, Nat.reduceAdd, Nat.reduceSub, List.replicate, List.cons_append, List.nil_append, opd, Env.put, Env.at, List.set_cons_zero, List.set_cons_succ, List.getD_cons_zero, List.getD_cons_succ, freezeL, resVs, oneOr, Option.map_some, Option.map_none, List.map_cons, List.map_nil, if_true, if_false, Bool.not_true, Bool.not_false, Bool.false_eq_true, reduceIte, decide_true, decide_false, Int.reduceLT, Int.reduceLE, Int.reduceGT, Int.reduceGE, Int.reduceEq, Int.reduceBEq, Int.reduceBNe]
  rw [hx]
  refine .inr ⟨fun i hi => ?_, S2, rfl, g3⟩
  rcases hi with rfl | rfl
  · exact n0
  · exact n1
theorem round1 (n R : Nat) (hn : n < 256) (k j : Int) (hk : k = 1 ∨ k = 2 ∨ k = 3) (hj0 : 0 ≤ j) (hj : j ≤ 7) (S : St) (hS : InvR R S) :
    ((∀ i, (i = 0 ∨ i = 1) → ¬ Hit n k j i) ∧ ∃ e' S', evC tabGl (evL3 999) 999 M39b1 (Em n R k j) S = some (.nrm, e', S') ∧ maskE M39b1l e' = Em n R k (j + 1) ∧ InvR R S') ∨ Found n R (evC tabGl (evL3 999) 999 M39b1 (Em n R k j) S) := by
  have h7 : (j ≤ 7) = True := eq_true hj
  have a1 : IntKind.i64.wrap (j + 1) = j + 1 := wrapI _ (by omega) (by omega)
  have hi := inner n R hn k j hk S hS (Em0 n R k j) rfl
  have hev : evC tabGl (evL3 999) 999 M39b1 (Em n R k j) S = seqR (blockR 3 (blockR 4 (iter (evC tabGl (evL3 999) 999 M39b0) M39b0l 999 (Em0 n R k j) S))) (evC tabGl (evL3 999) 999 (MC.reg [⟨some 16, MOp.mv (Opd.s 5), none⟩, ⟨some 17, MOp.bin .add (Opd.s 16) (Opd.c (AV.int .i64 1)), none⟩, ⟨some 5, MOp.mv (Opd.s 17), none⟩])) := by
    simp only [M39b1, Em, h7, evC_loop, qES0, qES1, qES2, env0, List.length_cons, List.length_nil, Nat.reduceAdd, Nat.reduceSub, List.replicate, List.cons_append, List.nil_append, opd, Env.put, Env.at, List.set_cons_zero, List.set_cons_succ, List.getD_cons_zero, List.getD_cons_succ, freezeL, resVs, oneOr, Option.map_some, Option.map_none, List.map_cons, List.map_nil, if_true, if_false, Bool.not_true, Bool.not_false, Bool.false_eq_true, reduceIte, decide_true, decide_false, Int.reduceLT, Int.reduceLE, Int.reduceGT, Int.reduceGE, Int.reduceEq, Int.reduceBEq, Int.reduceBNe]
    rfl
  rw [hev]
  rcases hi with hf | ⟨nh, S', h1, h2⟩
  · exact .inr (((hf.block 4).block 3).seq _)
  · left
    refine ⟨nh, ?_⟩
    rw [h1]
    simp only [E1, a1, qES0, qES1, qES2, env0, List.length_cons, List.length_nil, Nat.reduceAdd, Nat.reduceSub, List.replicate, List.cons_append, List.nil_append, opd, Env.put, Env.at, List.set_cons_zero, List.set_cons_succ, List.getD_cons_zero, List.getD_cons_succ, freezeL, resVs, oneOr, Option.map_some, Option.map_none, List.map_cons, List.map_nil, if_true, if_false, Bool.not_true, Bool.not_false, Bool.false_eq_true, reduceIte, decide_true, decide_false, Int.reduceLT, Int.reduceLE, Int.reduceGT, Int.reduceGE, Int.reduceEq, Int.reduceBEq, Int.reduceBNe]
    exact ⟨_, _, rfl, rfl, h2⟩
theorem middle (n R : Nat) (hn : n < 256) (k : Int) (hk : k = 1 ∨ k = 2 ∨ k = 3) (S : St) (hS : InvR R S) (e : Env) (he : maskE M39b1l e = Em n R k 0) :
    Found n R (iter (evC tabGl (evL3 999) 999 M39b1) M39b1l 999 e S) ∨ ((∀ j : Nat, j < 8 → ∀ i, (i = 0 ∨ i = 1) → ¬ Hit n k j i) ∧ ∃ S', iter (evC tabGl (evL3 999) 999 M39b1) M39b1l 999 e S = some (.exit 2, Em8 n R k, S') ∧ InvR R S') := by
  refine iter_leave (evC tabGl (evL3 999) 999 M39b1) M39b1l (fun i e s => maskE M39b1l e = Em n R k (i : Nat) ∧ InvR R s ∧ ∀ j : Nat, j < i → ∀ x, (x = 0 ∨ x = 1) → ¬ Hit n k j x)
    (fun out => Found n R out ∨ ((∀ j : Nat, j < 8 → ∀ i, (i = 0 ∨ i = 1) → ¬ Hit n k j i) ∧ ∃ S', out = some (.exit 2, Em8 n R k, S') ∧ InvR R S')) 8 ?_ ?_ 8 0 e S 999 rfl ⟨he, hS, fun j hj => absurd hj (by omega)⟩ (by omega)
  · rintro i e s hi ⟨h1, h2, h3⟩
    rw [h1]
    rcases round1 n R hn k (i : Nat) hk (by omega) (by omega) s h2 with ⟨nh, e', S', g1, g2, g3⟩ | hf
    · refine .inl ⟨e', S', g1, by rw [g2]; rfl, g3, fun j hj => ?_⟩
      by_cases h : j < i
      · exact h3 j h
      · have : j = i := by omega
        subst this
        exact nh
    · exact .inr ⟨.inl hf, hf.not_nrm⟩
  · rintro e s ⟨h1, h2, h3⟩
    rw [h1]
    have hx : evC tabGl (evL3 999) 999 M39b1 (Em n R k (8 : Nat)) s = some (.exit 2, Em8 n R k, s) := by
      show evC tabGl (evL3 999) 999 M39b1 (Em n R k 8) s = _
      simp only [M39b1, Em, Em8, qES0, qES1, qES2, env0, List.length_cons, List.length_nil, Nat.reduceAdd, Nat.reduceSub, List.replicate, List.cons_append, List.nil_append, opd, Env.put, Env.at, List.set_cons_zero, List.set_cons_succ, List.getD_cons_zero, List.getD_cons_succ, freezeL, resVs, oneOr, Option.map_some, Option.map_none, List.map_cons, List.map_nil, if_true, if_false, Bool.not_true, Bool.not_false, Bool.false_eq_true, reduceIte, decide_true, decide_false, Int.reduceLT, Int.reduceLE, Int.reduceGT, Int.reduceGE, Int.reduceEq, Int.reduceBEq, Int.reduceBNe]
    rw [hx]
    exact ⟨.inr ⟨h3, s, rfl, h2⟩, fun e' s' h => by cases h⟩
theorem round2 (n R : Nat) (hn : n < 256) (k : Int) (hk : k = 1 ∨ k = 2 ∨ k = 3) (S : St) (hS : InvR R S) :
    ((∀ j : Nat, j < 8 → ∀ i, (i = 0 ∨ i = 1) → ¬ Hit n k j i) ∧ ∃ e' S', evC tabGl (evL3 999) 999 M39b2 (Eo n R k) S = some (.nrm, e', S') ∧ maskE M39b2l e' = Eo n R (k + 1) ∧ InvR R S') ∨ Found n R (evC tabGl (evL3 999) 999 M39b2 (Eo n R k) S) := by
  have h7 : (k ≤ 3) = True := eq_true (by omega)
  have a1 : IntKind.i64.wrap (k + 1) = k + 1 := wrapI _ (by omega) (by omega)
  have hi := middle n R hn k hk S hS (Eo0 n R k) rfl
  have hev : evC tabGl (evL3 999) 999 M39b2 (Eo n R k) S = seqR (blockR 1 (blockR 2 (iter (evC tabGl (evL3 999) 999 M39b1) M39b1l 999 (Eo0 n R k) S))) (evC tabGl (evL3 999) 999 (MC.reg [⟨some 12, MOp.mv (Opd.s 4), none⟩, ⟨some 13, MOp.bin .add (Opd.s 12) (Opd.c (AV.int .i64 1)), none⟩, ⟨some 4, MOp.mv (Opd.s 13), none⟩])) := by
    simp only [M39b2, Eo, h7, evC_loop, qES0, qES1, qES2, env0, List.length_cons, List.length_nil, Nat.reduceAdd, Nat.reduceSub, List.replicate, List.cons_append, List.nil_append, opd, Env.put, Env.at, List.set_cons_zero, List.set_cons_succ, List.getD_cons_zero, List.getD_cons_succ, freezeL, resVs, oneOr, Option.map_some, Option.map_none, List.map_cons, List.map_nil, if_true, if_false, Bool.not_true, Bool.not_false, Bool.false_eq_true, reduceIte, decide_true, decide_false, Int.reduceLT, Int.reduceLE, Int.reduceGT, Int.reduceGE, Int.reduceEq, Int.reduceBEq, Int.reduceBNe]
    rfl
  rw [hev]
  rcases hi with hf | ⟨nh, S', h1, h2⟩
  · exact .inr (((hf.block 2).block 1).seq _)
  · left
    refine ⟨nh, ?_⟩
    rw [h1]
    simp only [Em8, a1, qES0, qES1, qES2, env0, List.length_cons, List.length_nil, Nat.reduceAdd, Nat.reduceSub, List.replicate, List.cons_append, List.nil_append, opd, Env.put, Env.at, List.set_cons_zero, List.set_cons_succ, List.getD_cons_zero, List.getD_cons_succ, freezeL, resVs, oneOr, Option.map_some, Option.map_none, List.map_cons, List.map_nil, if_true, if_false, Bool.not_true, Bool.not_false, Bool.false_eq_true, reduceIte, decide_true, decide_false, Int.reduceLT, Int.reduceLE, Int.reduceGT, Int.reduceGE, Int.reduceEq, Int.reduceBEq, Int.reduceBNe]
    exact ⟨_, _, rfl, rfl, h2⟩
theorem outer (n R : Nat) (hn : n < 256) (S : St) (hS : InvR R S) (e : Env) (he : maskE M39b2l e = Eo n R 1) :
    Found n R (iter (evC tabGl (evL3 999) 999 M39b2) M39b2l 999 e S) ∨ ((∀ k, (k = 1 ∨ k = 2 ∨ k = 3) → ∀ j : Nat, j < 8 → ∀ i, (i = 0 ∨ i = 1) → ¬ Hit n k j i) ∧ ∃ e' S', iter (evC tabGl (evL3 999) 999 M39b2) M39b2l 999 e S = some (.exit 0, e', S') ∧ e' = Eo4 n R ∧ InvR R S') := by
  refine iter_leave (evC tabGl (evL3 999) 999 M39b2) M39b2l (fun i e s => maskE M39b2l e = Eo n R ((i : Nat) + 1) ∧ InvR R s ∧ ∀ k : Nat, k < i → ∀ j : Nat, j < 8 → ∀ x, (x = 0 ∨ x = 1) → ¬ Hit n ((k : Nat) + 1) j x)
    (fun out => Found n R out ∨ ((∀ k, (k = 1 ∨ k = 2 ∨ k = 3) → ∀ j : Nat, j < 8 → ∀ i, (i = 0 ∨ i = 1) → ¬ Hit n k j i) ∧ ∃ e' S', out = some (.exit 0, e', S') ∧ e' = Eo4 n R ∧ InvR R S')) 3 ?_ ?_ 3 0 e S 999 rfl ⟨he, hS, fun j hj => absurd hj (by omega)⟩ (by omega)
  · rintro i e s hi ⟨h1, h2, h3⟩
    rw [h1]
    rcases round2 n R hn ((i : Nat) + 1) (by omega) s h2 with ⟨nh, e', S', g1, g2, g3⟩ | hf
    · refine .inl ⟨e', S', g1, by rw [g2]; rfl, g3, fun j hj => ?_⟩
      by_cases h : j < i
      · exact h3 j h
      · have : j = i := by omega
        subst this
        exact nh
    · exact .inr ⟨.inl hf, hf.not_nrm⟩
  · rintro e s ⟨h1, h2, h3⟩
    rw [h1]
    have hx : evC tabGl (evL3 999) 999 M39b2 (Eo n R ((3 : Nat) + 1)) s = some (.exit 0, Eo4 n R, s) := by
      show evC tabGl (evL3 999) 999 M39b2 (Eo n R 4) s = _
      simp only [M39b2, Eo, Eo4, qES0, qES1, qES2, env0, List.length_cons, List.length_nil, Nat.reduceAdd, Nat.reduceSub, List.replicate, List.cons_append, List.nil_append, opd, Env.put, Env.at, List.set_cons_zero, List.set_cons_succ, List.getD_cons_zero, List.getD_cons_succ, freezeL, resVs, oneOr, Option.map_some, Option.map_none, List.map_cons, List.map_nil, if_true, if_false, Bool.not_true, Bool.not_false, Bool.false_eq_true, reduceIte, decide_true, decide_false, Int.reduceLT, Int.reduceLE, Int.reduceGT, Int.reduceGE, Int.reduceEq, Int.reduceBEq, Int.reduceBNe]
    rw [hx]
    refine ⟨.inr ⟨fun k hk => ?_, _, s, rfl, rfl, h2⟩, fun e' s' h => by cases h⟩
    rcases hk with rfl | rfl | rfl
    · exact h3 0 (by omega)
    · exact h3 1 (by omega)
    · exact h3 2 (by omega)
theorem getCtl_val (n : Nat) (hn : n < 256) (s : St) : valR (evL3 1000 39 [.int .u8 (n : Int)] (s.pl [])) = some (.tup [.agg (gct n).pn.cells, .bool (gct n).is]) := by
  rw [show (1000 : Nat) = 999 + 1 from rfl, evL3_in rfl tab39]
  have hI : InvR s.next (s.pl [.cells 0 zero9]) := ⟨by simp [pl_next], plg0 _ _ _⟩
  have ho := outer n s.next hn (s.pl [.cells 0 zero9]) hI ((Eo n s.next 1).set 3 (.bool false)) rfl
  have hev : evC tabGl (evL3 999) 999 M39.body (env0 M39.ntmps [.int .u8 (n : Int)]) (s.pl []) = seqR (blockR 0 (iter (evC tabGl (evL3 999) 999 M39b2) M39b2l 999 ((Eo n s.next 1).set 3 (.bool false)) (s.pl [.cells 0 zero9]))) (evC tabGl (evL3 999) 999 ((MC.reg [⟨some 52, MOp.build zero9 [], none⟩, ⟨none, MOp.store 9 (Opd.s 2) (Opd.s 52), none⟩, ⟨some 3, MOp.mv (Opd.c (AV.bool false)), none⟩]).seq MC.ret)) := by
    simp only [M39, Eo, evC_loop, zero9, qES0, qES1, qES2, env0, List.length_cons, List.length_nil, Nat.reduceAdd, Nat.reduceSub, List.replicate, List.cons_append, List.nil_append, opd, Env.put, Env.at, List.set_cons_zero, List.set_cons_succ, List.getD_cons_zero, List.getD_cons_succ, freezeL, resVs, oneOr, Option.map_some, Option.map_none, List.map_cons, List.map_nil, if_true, if_false, Bool.not_true, Bool.not_false, Bool.false_eq_true, reduceIte, decide_true, decide_false, Int.reduceLT, Int.reduceLE, Int.reduceGT, Int.reduceGE, Int.reduceEq, Int.reduceBEq, Int.reduceBNe, load_ptr, ldV_some, cellAt_cells, List.getElem?_cons_zero, List.getElem?_cons_succ, store_ptr, stO_some, setAt_0, setAt_1, setAt_2, setAt_3, setAt_4, setAt_5, setAt_6, setAt_7, setAt_8, setAt_9, setAt_10, setAt_11, setAt_12, cells_int, cells_bool, cells_str, cells_nils, cells_nilp, cells_ptr, cells_sl, cells_u8, cells_u16, cells_agg, get_upd_is, Option.isSome_some, upd_upd, ev1_nchkV, ev1_faV, nchkV_ptr, faV_ptr, ev1_extV, extV_tup, eqptr_nil, eqptr_ptr, Nat.zero_add, Nat.add_zero, qPL0, qPL1, qPL2, qPL3, qPL4, qPL5, beq_self_eq_true]
  rw [hev]
  rcases ho with hf | ⟨nh, e', S', h1, h2, h3⟩
  · obtain ⟨e', S', g1, g2, g3, g4, g5⟩ := (hf.block 0).seq (evC tabGl (evL3 999) 999 ((MC.reg [⟨some 52, MOp.build zero9 [], none⟩, ⟨none, MOp.store 9 (Opd.s 2) (Opd.s 52), none⟩, ⟨some 3, MOp.mv (Opd.c (AV.bool false)), none⟩]).seq MC.ret))
    rw [g1, g5]
    simp only [Env.at] at g2 g3
    simp only [Pn.cells] at g4
    simp only [M39, g2, g3, g4, Pn.cells, qES0, qES1, qES2, env0, List.length_cons, List.length_nil, Nat.reduceAdd, Nat.reduceSub, List.replicate, List.cons_append, List.nil_append, opd, Env.put, Env.at, List.set_cons_zero, List.set_cons_succ, List.getD_cons_zero, List.getD_cons_succ, freezeL, resVs, oneOr, Option.map_some, Option.map_none, List.map_cons, List.map_nil, if_true, if_false, Bool.not_true, Bool.not_false, Bool.false_eq_true, reduceIte, decide_true, decide_false, Int.reduceLT, Int.reduceLE, Int.reduceGT, Int.reduceGE, Int.reduceEq, Int.reduceBEq, Int.reduceBNe, load_ptr, ldV_some, cellAt_cells, List.getElem?_cons_zero, List.getElem?_cons_succ, store_ptr, stO_some, setAt_0, setAt_1, setAt_2, setAt_3, setAt_4, setAt_5, setAt_6, setAt_7, setAt_8, setAt_9, setAt_10, setAt_11, setAt_12, cells_int, cells_bool, cells_str, cells_nils, cells_nilp, cells_ptr, cells_sl, cells_u8, cells_u16, cells_agg, get_upd_is, Option.isSome_some, upd_upd, ev1_nchkV, ev1_faV, nchkV_ptr, faV_ptr, ev1_extV, extV_tup, eqptr_nil, eqptr_ptr, Nat.zero_add, Nat.add_zero, qPL0, qPL1, qPL2, qPL3, qPL4, qPL5, beq_self_eq_true]
  · have hnis : (gct n).is = false := by
      rw [Bool.eq_false_iff]
      intro h
      obtain ⟨q1, ⟨j, q2, q3⟩, q4⟩ := hit_all n hn h
      refine nh _ q1 j q2 (if (gct n).pf = true then 1 else 0) (by split <;> simp) ?_
      rw [← q3]
      exact q4
    have hgn : gct n = .n := by revert hnis; cases gct n <;> simp [Ct.is]
    rw [h1, h2, hgn]
    have hz := h3.2
    simp only [zero9] at hz
    have hz2 : ∀ o, (S'.upd s.next o).get s.next = some o := fun o => get_upd_eq _ _ hz
    simp only [M39, Eo4, zero9, hz, hz2, Pn.cells, Ct.pn, Ct.is, Ct.kind, Ct.sort, Ct.nr, Ct.ns, Ct.pf, qES0, qES1, qES2, env0, List.length_cons, List.length_nil, Nat.reduceAdd, Nat.reduceSub, List.replicate, List.cons_append, List.nil_append, opd, Env.put, Env.at, List.set_cons_zero, List.set_cons_succ, List.getD_cons_zero, List.getD_cons_succ, freezeL, resVs, oneOr, Option.map_some, Option.map_none, List.map_cons, List.map_nil, if_true, if_false, Bool.not_true, Bool.not_false, Bool.false_eq_true, reduceIte, decide_true, decide_false, Int.reduceLT, Int.reduceLE, Int.reduceGT, Int.reduceGE, Int.reduceEq, Int.reduceBEq, Int.reduceBNe, load_ptr, ldV_some, cellAt_cells, List.getElem?_cons_zero, List.getElem?_cons_succ, store_ptr, stO_some, setAt_0, setAt_1, setAt_2, setAt_3, setAt_4, setAt_5, setAt_6, setAt_7, setAt_8, setAt_9, setAt_10, setAt_11, setAt_12, cells_int, cells_bool, cells_str, cells_nils, cells_nilp, cells_ptr, cells_sl, cells_u8, cells_u16, cells_agg, get_upd_is, Option.isSome_some, upd_upd, ev1_nchkV, ev1_faV, nchkV_ptr, faV_ptr, ev1_extV, extV_tup, eqptr_nil, eqptr_ptr, Nat.zero_add, Nat.add_zero, qPL0, qPL1, qPL2, qPL3, qPL4, qPL5, beq_self_eq_true]
def hGetCtl : List AV → St → Option AV
  | [.int .u8 n], _ => if 0 ≤ n ∧ n < 256 then some (.tup [.agg (gct n.toNat).pn.cells, .bool (gct n.toNat).is]) else none
  | _, _ => none
theorem getCtl_pure : PureOk (evL3 1000) 39 hGetCtl := pureOk_of (by
  intro args s v h
  unfold hGetCtl at h
  split at h
  · rename_i n
    split at h
    · rename_i hn
      cases h
      refine ⟨by simp [Ab.flat, Ab.flatL, Pn.cells], rfl, ?_⟩
      have := getCtl_val n.toNat (by omega) St.nil
      rw [Int.toNat_of_nonneg hn.1] at this
      exact this
    · cases h
  · cases h)
end Go.Proofs.YthcblggiojpmcaaDoor
/- Layer 4 with GetCtl too. No conditions. -/
set_option linter.unusedSimpArgs false
set_option linter.unusedVariables false
set_option maxRecDepth 100000
namespace Go.Proofs.YthcblggiojpmcaaDoor
open Go Go.Ab
def lst4 (f : Nat) : Option (List AV → St → Option AV) := if f = 39 then some hGetCtl else none
noncomputable def ext4 := extWith ext3 lst4
theorem ext4_ok : ∀ w0, ExtOk Tryd.prog tabGl w0 ext4 := extOk_add (tableOf_ok _) mixed tab_flat ext3_ok lst4 (by
  intro f h hf
  unfold lst4 at hf
  rcases some_of hf with ⟨rfl, rfl⟩ | hf
  · exact ⟨by rw [tab39]; rfl, 1000, getCtl_pure⟩
  cases hf)
noncomputable def evL4 : Nat → Calls' := evF tabGl (tableOf Tryd.prog) ext4
theorem evL4_ok (w0 : World) (k : Nat) : CallOk Tryd.prog tabGl w0 (evL4 k) := evF_sound (tableOf_ok _) (ext4_ok w0) mixed k
theorem evL4_in {k f : Nat} {m : MFun} (hx : ext4 f = none) (hF : tableOf Tryd.prog f = some m) (args : List AV) (s : St) :
    evL4 (k + 1) f args s = outR m.res (evC tabGl (evL4 k) k m.body (env0 m.ntmps args) s) := evF_in hx hF args s
/-! Calls. -/
theorem f20 (k : Nat) (s : St) : evL4 (k + 1) 20 [] s = some (.bool true, s) := evF_ext (H := hTrue) rfl rfl
theorem f32 (k : Nat) (p : Pn) (s : St) : evL4 (k + 1) 32 [.agg p.cells] s = some (.agg ({ p with body := p.body.take 70 } : Pn).cells, s) := evF_ext (H := hPlain) rfl rfl
theorem f33 (k : Nat) (p : Pn) (s : St) : evL4 (k + 1) 33 [.agg p.cells] s = some (p.ctl.av, s) := evF_ext (H := hAny1) rfl rfl
theorem f34 (k : Nat) (p : Pn) (s : St) : evL4 (k + 1) 34 [.agg p.cells] s = some (if p.okc = true then .tup [.int .u8 p.ctl.num, .bool true] else .tup [.int .u8 0, .bool false], s) := evF_ext (H := hRCtl) rfl rfl
theorem f35 (k : Nat) (c : Ct) (s : St) : evL4 (k + 1) 35 [c.av] s = some (.tup [.int .u8 (if c.may = true then c.num else 0), .bool c.may], s) := evF_ext (H := hPut) rfl (by simp only [List.map_cons, List.map_nil, dry_ct, hPut, toCt_av, Option.map_some])
theorem f36 (k : Nat) (c : Ct) (s : St) : evL4 (k + 1) 36 [c.av] s = some (.bool c.may, s) := evF_ext (H := hMay) rfl (by simp only [List.map_cons, List.map_nil, dry_ct, hMay, toCt_av])
theorem f38 (k : Nat) (c : Ct) (s : St) : evL4 (k + 1) 38 [c.av] s = some (.bool c.pf, s) := evF_ext (H := hPf) rfl (by simp only [List.map_cons, List.map_nil, dry_ct, hPf, toCt_av, Option.map_some])
theorem f37 (k : Nat) (n : Nat) (h : n < 256) (s : St) : evL4 (k + 1) 37 [.int .u8 (n : Int)] s = some (.tup [(gct n).av, .bool (gct n).is], s) := evF_ext (H := hGet) rfl (by simp only [List.map_cons, List.map_nil, dry1_int, hGet]; rw [if_pos ⟨by omega, by omega⟩]; simp)
theorem f39 (k : Nat) (n : Nat) (h : n < 256) (s : St) : evL4 (k + 1) 39 [.int .u8 (n : Int)] s = some (.tup [.agg (gct n).pn.cells, .bool (gct n).is], s) := evF_ext (H := hGetCtl) rfl (by simp only [List.map_cons, List.map_nil, dry1_int, hGetCtl]; rw [if_pos ⟨by omega, by omega⟩]; simp)
theorem f41 (k : Nat) (p : Pn) (s : St) : evL4 (k + 1) 41 [.agg p.cells] s = some (.bool p.may, s) := evF_ext (H := hRMay) rfl rfl
/-- Nothing where nothing belongs. -/
def Pn.exactly (p : Pn) : Pn := if p.kind = 1 then { p with sort := 0 } else if p.kind = 2 then { p with ns := 0 } else { p with nr := 0, ns := 0 }
theorem exactly_ctl (p : Pn) : p.exactly.ctl = p.ctl := by
  obtain ⟨seat, count, cmd, kind, sort, nr, ns, pf, body⟩ := p
  simp only [Pn.exactly]
  by_cases h1 : kind = 1
  · subst h1; rfl
  · by_cases h2 : kind = 2
    · subst h2; rfl
    · rw [if_neg h1, if_neg h2]
      by_cases h3 : kind = 3
      · subst h3; rfl
      · simp [Pn.ctl, any1, h1, h2, h3]
theorem exactly_okc (p : Pn) : p.exactly.okc = p.ctl.may := by
  have hx : p.exactly.exact = true := by
    obtain ⟨seat, count, cmd, kind, sort, nr, ns, pf, body⟩ := p
    simp only [Pn.exactly]
    by_cases h1 : kind = 1
    · subst h1; rfl
    · by_cases h2 : kind = 2
      · subst h2; rfl
      · rw [if_neg h1, if_neg h2]
        simp [Pn.exact, h1, h2]
  rw [Pn.okc, hx, Bool.and_true, exactly_ctl]
theorem pn_ctl_is (c : Ct) (h : c.is = true) : c.pn.ctl = c := by cases c <;> first | rfl | cases h
end Go.Proofs.YthcblggiojpmcaaDoor
