/- say: one side says what it has to say, of which some is lost. No conditions. -/
import Derived.Test.YtochnineebgbgaaDoorPart
import Derived.Test.YtochnineebgbgaaDoorTwo
import Derived.Test.YtochnineebgbgaaDoorDuo
import Derived.Test.YtochnineebgbgaaDoorIxp
import Derived.Test.YtochnineebgbgaaDoorM12h
set_option linter.unusedSimpArgs false
set_option linter.unusedVariables false
set_option maxRecDepth 100000
set_option maxHeartbeats 4000000
namespace Go.Proofs.YtochnineebgbgaaDoor
open Go Go.Ab
/-- A turn as an object. -/
def turnPart (t o i : Nat) (sz : Int) (W : Nat) (T : Tn) : Part where
  P s := TnAt s t o i sz W T
  F s := Ft s t o i
  lt s h j hj := TurnAt.ft_lt h hj
  keep s s' h hn hs := TurnAt.keep h hn hs
section
variable {s s' : St} {l : List Part} {t o i : Nat} {sz : Int} {W : Nat} {T T' : Tn}
theorem Apart.turnStep (h : Apart s (turnPart t o i sz W T :: l)) {k f : Nat} {args : List AV} {v : AV} (he : evO k f args s = some (v, s')) (hg : ∀ C : Nat → Prop, C t → inL C args) (hA : TnAt s' t o i sz W T') : Apart s' (turnPart t o i sz W T' :: l) ∧ s.next ≤ s'.next :=
  h.step he (hg _ (.inr (.inl rfl))) (TurnAt.fp h.head h.wf) hA fun hf j hj => by
    rcases hj with rfl | rfl | rfl | ⟨W', cs', n, u, z', f', st', hj⟩
    · exact .inr (.inl rfl)
    · exact .inr (.inr (.inl rfl))
    · exact .inr (.inr (.inr (.inl rfl)))
    · exact (hf.cells o 0 _ (.inr (.inr (.inl rfl))) hj).2.1.2
theorem go_tnk (k : Nat) (h : TnAt s t o i sz W T) (hk : T.ok = true) (hW : W ≤ 7) : ∃ v s', evO (k + 30) 42 [.ptr t 0] s = some (v, s') ∧ TnAt s' t o i sz W (T.went W) ∧ FrV v (T.says W) := by
  obtain ⟨k1, k2, k3, k4⟩ := T.ok_of hk
  by_cases hm : T.mine = true
  · have h' := h
    unfold TnAt at h'
    rw [hm] at h'
    obtain ⟨s', p1, p2, _⟩ := go_ev k W T.st h' k1 k2 hW (by omega)
    refine ⟨_, s', p1, ?_, .inr ⟨goC (T.role == 1) T.nx T.f T.L T.od (min W T.L.length), ?_, fun j hj => ?_⟩⟩
    · unfold TnAt Tn.went
      rw [if_pos hm]
      exact p2
    · rw [says_len hm]; rfl
    · rw [says_len hm] at hj
      obtain ⟨rest, hr⟩ := go_at (T.role == 1) T.nx T.f T.L T.od (T.m W) j hj
      refine ⟨rest, ?_⟩
      rw [show min W T.L.length = T.m W from rfl, hr]
      by_cases h0 : T.m W = 0
      · have hj0 : j = 0 := by omega
        subst hj0
        rw [if_pos h0]
        simp only [says_none hm h0, List.getElem_cons_zero]
      · rw [if_neg h0]
        simp only [says_some hm h0, List.getElem_map, List.getElem_range]
  · have hm' : T.mine = false := by cases hh : T.mine <;> simp_all
    have h' := h
    unfold TnAt at h'
    rw [hm'] at h'
    refine ⟨_, s, go_no (k + 28) h', ?_, .inl ⟨rfl, ?_⟩⟩
    · unfold Tn.went; rw [if_neg hm]; exact h
    · unfold Tn.says; rw [if_neg hm]
theorem take_tnk (k : Nat) {p : Fm} (h : TnAt s t o i sz W T) (hr : T.role = 1 ∨ T.role = 2) (hp : T.can p = true) : ∃ s', evO (k + 5) 49 [.ptr t 0, .agg (plC 0 0 p.cmd p.kind p.sort p.nr p.ns p.pf p.body)] s = some (if T.tells p = true then .tup [.str p.body, .bool true] else .tup [.str [], .bool false], s') ∧ TnAt s' t o i sz W (T.took p) := by
  simp only [Tn.can, Bool.and_eq_true, Bool.or_eq_true, decide_eq_true_eq, beq_iff_eq] at hp
  obtain ⟨⟨⟨⟨⟨⟨⟨c1, c2⟩, c3⟩, c4⟩, c5⟩, c6⟩, c7⟩, c8⟩ := hp
  obtain ⟨s', p1, p2, _⟩ := take_evT k T.st h hr 0 0 p.cmd c1 p.kind p.sort p.nr p.ns p.pf p.body c2 c3 c4 c5 c6 c7 c8
  refine ⟨s', ?_, ?_⟩
  · rw [p1]
    congr 2
    simp only [Tn.tells, Bool.and_eq_true, decide_eq_true_eq]
  · unfold TnAt
    have e : ∀ {α : Type} (x y : α), (if T.acc p.nr = true then x else y) = if accepts p.nr T.f T.st then x else y := fun x y => by
      by_cases hh : accepts p.nr T.f T.st
      · rw [if_pos hh, if_pos (show T.acc p.nr = true from decide_eq_true hh)]
      · rw [if_neg hh, if_neg (fun h2 : T.acc p.nr = true => hh (of_decide_eq_true h2))]
    simp only [Tn.took, e]
    exact p2
end
theorem and7 (j : Nat) (hj : j < 8) : binV .and (.int .i64 (j : Int)) (.int .i64 7) = some (.int .i64 (j : Int)) := by
  have : ∀ j : Fin 8, IntKind.i64.wrap (BitVec.ofInt 64 (j.val : Int) &&& BitVec.ofInt 64 7).toNat = (j.val : Int) := by decide
  show some (AV.int .i64 (IntKind.i64.wrap (BitVec.ofInt 64 (j : Int) &&& BitVec.ofInt 64 7).toNat)) = _
  rw [this ⟨j, hj⟩]
/-- One bit of what is lost. -/
def lossI (loss : Int) (j : Nat) : Int := IntKind.i64.wrap (BitVec.ofInt 64 (loss.fdiv (2 ^ (min j 64))) &&& BitVec.ofInt 64 1).toNat
def lostB (loss : Int) (j : Nat) : Bool := lossI loss j == 1
theorem shrL (loss : Int) (j : Nat) : binV .shr (.int .i64 loss) (.int .i64 (j : Int)) = some (.int .i64 (loss.fdiv (2 ^ (min j 64)))) := by
  show (if ((j : Nat) : Int) < 0 then none else some (AV.int .i64 (loss.fdiv (2 ^ (min ((j : Int).toNat) IntKind.i64.bits))))) = _
  rw [if_neg (by omega), Int.toNat_natCast]
  rfl
theorem and1L (loss : Int) (j : Nat) : binV .and (.int .i64 (loss.fdiv (2 ^ (min j 64)))) (.int .i64 1) = some (.int .i64 (lossI loss j)) := rfl
def E48 (tb : Nat) (loss : Int) (n : Int) (v : AV) (len j : Int) : Env := [.undef, .ptr tb 0, .int .i64 loss, .undef, .undef, .undef, .undef, .int .i64 n, .undef, .undef, .undef, .undef, .undef, v, .int .i64 len, .int .i64 j, .undef, .undef, .undef, .undef, .undef, .undef, .undef, .undef, .undef, .undef, .undef, .undef, .undef, .undef, .undef, .undef, .undef, .undef, .undef, .undef, .undef]
def X48 (tb : Nat) (loss : Int) (n : Int) (v : AV) (len : Int) : Env := [.undef, .ptr tb 0, .int .i64 loss, .undef, .undef, .undef, .undef, .int .i64 n, .undef, .undef, .undef, .undef, .undef, v, .int .i64 len, .int .i64 len, .bool false, .undef, .undef, .undef, .undef, .undef, .undef, .undef, .undef, .undef, .undef, .undef, .undef, .undef, .undef, .undef, .undef, .undef, .undef, .undef, .undef]
theorem hearL48 (k : Nat) (hk : 20 ≤ k) (loss : Int) (W V : Nat) (sz : Int) (v : AV) (ps : List Fm) (hv : FrV v ps) (hl8 : ps.length ≤ 8) (s : St) (ta oa ia tb ob ib y y' : Nat) (A B B' : Tn) (l : List Part) (h : Apart s (turnPart tb ob ib sz V B :: l)) (hr : B.role = 1 ∨ B.role = 2) (hh : hearK (lostB loss) 0 ps (B, y) = some (B', y')) (e : Env) (he : maskE M48b0l e = E48 tb loss 0 v (ps.length : Nat) 0) :
    ∃ S, iter (evC tabGl (evO k) k M48b0) M48b0l k e s = some (.exit 0, X48 tb loss ((y' - y : Nat) : Int) v (ps.length : Nat), S) ∧ Apart S (turnPart tb ob ib sz V B' :: l) := by
  refine iter_leave (evC tabGl (evO k) k M48b0) M48b0l (fun j e S => ∃ Bj n, maskE M48b0l e = E48 tb loss ((n : Nat) : Int) v (ps.length : Nat) (j : Nat) ∧ Apart S (turnPart tb ob ib sz V Bj :: l) ∧ Bj.role = B.role ∧ hearK (lostB loss) j (ps.drop j) (Bj, y + n) = some (B', y') ∧ n ≤ j)
    (fun out => ∃ S, out = some (.exit 0, X48 tb loss ((y' - y : Nat) : Int) v (ps.length : Nat), S) ∧ Apart S (turnPart tb ob ib sz V B' :: l)) ps.length ?_ ?_ ps.length 0 _ _ k (by omega) ⟨B, 0, he, h, rfl, hh, by omega⟩ (by omega)
  · rintro j e S hj ⟨Bj, n, h1, h2, h3, h4, h5⟩
    rw [h1]
    left
    obtain ⟨r, i1, i2⟩ := hv.at_ j hj
    rw [List.drop_eq_getElem_cons hj] at h4
    have q : ((j : Int) < ((ps.length : Nat) : Int)) = True := eq_true (by omega)
    have w1 : IntKind.i64.wrap ((j : Int) + 1) = ((j + 1 : Nat) : Int) := (wrapI _ (by omega) (by omega)).trans (by omega)
    have a7 := and7 j (by omega)
    have sh := shrL loss j
    have a1 := and1L loss j
    generalize ps[j] = p at *
    have D1 := (h2.new (.cells 0 (plC 0 0 p.cmd p.kind p.sort p.nr p.ns p.pf p.body))).tail
    rw [show S.new (.cells 0 (plC 0 0 p.cmd p.kind p.sort p.nr p.ns p.pf p.body)) = S.pl [.cells 0 (plC 0 0 p.cmd p.kind p.sort p.nr p.ns p.pf p.body)] from rfl] at D1
    simp only [hearK] at h4
    by_cases hL : lostB loss j = true
    · rw [if_pos hL] at h4
      unfold lostB at hL
      suffices hs : ∃ e', evC tabGl (evO k) k M48b0 (E48 tb loss (n : Nat) v (ps.length : Nat) (j : Nat)) S = some (.nrm, e', S.pl [.cells 0 (plC 0 0 p.cmd p.kind p.sort p.nr p.ns p.pf p.body)]) ∧ maskE M48b0l e' = E48 tb loss (n : Nat) v (ps.length : Nat) ((j + 1 : Nat) : Int) by
        obtain ⟨e', g1, g2⟩ := hs
        exact ⟨e', _, g1, Bj, n, g2, D1, h3, h4, by omega⟩
      unfold plC at i2 ⊢
      rw [show S = S.pl [] from rfl]
      simp only [M48b0, E48, q, w1, a7, sh, a1, hL, i1, i2, loadR_rp, qES0, qES1, qES2, env0, List.length_cons, List.length_nil, Nat.reduceAdd, Nat.reduceSub, List.replicate, List.cons_append, List.nil_append, opd, Env.put, Env.at, List.set_cons_zero, List.set_cons_succ, List.getD_cons_zero, List.getD_cons_succ, freezeL, resVs, oneOr, Option.map_some, Option.map_none, List.map_cons, List.map_nil, if_true, if_false, Bool.not_true, Bool.not_false, Bool.false_eq_true, reduceIte, decide_true, decide_false, Int.reduceLT, Int.reduceLE, Int.reduceGT, Int.reduceGE, Int.reduceEq, Int.reduceBEq, Int.reduceBNe, load_ptr, ldV_some, cellAt_cells, List.getElem?_cons_zero, List.getElem?_cons_succ, store_ptr, stO_some, setAt_0, setAt_1, setAt_2, setAt_3, setAt_4, setAt_5, setAt_6, setAt_7, setAt_8, setAt_9, setAt_10, setAt_11, setAt_12, cells_int, cells_bool, cells_str, cells_nils, cells_nilp, cells_ptr, cells_sl, cells_u8, cells_u16, cells_agg, get_upd_is, Option.isSome_some, upd_upd, ev1_nchkV, ev1_faV, nchkV_ptr, faV_ptr, ev1_extV, extV_tup, eqptr_nil, eqptr_ptr, Nat.zero_add, Nat.add_zero, qPL0, qPL1, qPL2, qPL3, qPL4, qPL5, beq_self_eq_true, qED0, qED1, placeR]
      exact ⟨_, rfl, rfl⟩
    · rw [if_neg hL] at h4
      have hL' : (lossI loss j == 1) = false := by
        unfold lostB at hL
        simpa using hL
      split at h4
      · rename_i hcan
        obtain ⟨S2, p1, p2⟩ := take_tnk (k - 5) D1.head (h3 ▸ hr) hcan
        rw [show k - 5 + 5 = k by omega] at p1
        have D2 := (D1.turnStep p1 (fun C hC => ⟨hC, ⟨trivial, trivial, trivial, trivial, trivial, trivial, trivial, trivial, trivial, trivial⟩, trivial⟩) p2).1
        have p1' := p1
        split at h4
        · rename_i ht
          rw [if_pos ht] at p1'
          have w2 : IntKind.i64.wrap ((n : Int) + 1) = ((n + 1 : Nat) : Int) := (wrapI _ (by omega) (by omega)).trans (by omega)
          suffices hs : ∃ e', evC tabGl (evO k) k M48b0 (E48 tb loss (n : Nat) v (ps.length : Nat) (j : Nat)) S = some (.nrm, e', S2) ∧ maskE M48b0l e' = E48 tb loss ((n + 1 : Nat) : Int) v (ps.length : Nat) ((j + 1 : Nat) : Int) by
            obtain ⟨e', g1, g2⟩ := hs
            exact ⟨e', _, g1, Bj.took p, n + 1, g2, D2, h3, h4, by omega⟩
          unfold plC at i2 p1'
          rw [show S = S.pl [] from rfl]
          simp only [M48b0, E48, q, w1, w2, a7, sh, a1, hL', i1, i2, p1', loadR_rp, qES0, qES1, qES2, env0, List.length_cons, List.length_nil, Nat.reduceAdd, Nat.reduceSub, List.replicate, List.cons_append, List.nil_append, opd, Env.put, Env.at, List.set_cons_zero, List.set_cons_succ, List.getD_cons_zero, List.getD_cons_succ, freezeL, resVs, oneOr, Option.map_some, Option.map_none, List.map_cons, List.map_nil, if_true, if_false, Bool.not_true, Bool.not_false, Bool.false_eq_true, reduceIte, decide_true, decide_false, Int.reduceLT, Int.reduceLE, Int.reduceGT, Int.reduceGE, Int.reduceEq, Int.reduceBEq, Int.reduceBNe, load_ptr, ldV_some, cellAt_cells, List.getElem?_cons_zero, List.getElem?_cons_succ, store_ptr, stO_some, setAt_0, setAt_1, setAt_2, setAt_3, setAt_4, setAt_5, setAt_6, setAt_7, setAt_8, setAt_9, setAt_10, setAt_11, setAt_12, cells_int, cells_bool, cells_str, cells_nils, cells_nilp, cells_ptr, cells_sl, cells_u8, cells_u16, cells_agg, get_upd_is, Option.isSome_some, upd_upd, ev1_nchkV, ev1_faV, nchkV_ptr, faV_ptr, ev1_extV, extV_tup, eqptr_nil, eqptr_ptr, Nat.zero_add, Nat.add_zero, qPL0, qPL1, qPL2, qPL3, qPL4, qPL5, beq_self_eq_true, qED0, qED1, placeR]
          exact ⟨_, rfl, rfl⟩
        · rename_i ht
          rw [if_neg ht] at p1'
          suffices hs : ∃ e', evC tabGl (evO k) k M48b0 (E48 tb loss (n : Nat) v (ps.length : Nat) (j : Nat)) S = some (.nrm, e', S2) ∧ maskE M48b0l e' = E48 tb loss (n : Nat) v (ps.length : Nat) ((j + 1 : Nat) : Int) by
            obtain ⟨e', g1, g2⟩ := hs
            exact ⟨e', _, g1, Bj.took p, n, g2, D2, h3, h4, by omega⟩
          unfold plC at i2 p1'
          rw [show S = S.pl [] from rfl]
          simp only [M48b0, E48, q, w1, a7, sh, a1, hL', i1, i2, p1', loadR_rp, qES0, qES1, qES2, env0, List.length_cons, List.length_nil, Nat.reduceAdd, Nat.reduceSub, List.replicate, List.cons_append, List.nil_append, opd, Env.put, Env.at, List.set_cons_zero, List.set_cons_succ, List.getD_cons_zero, List.getD_cons_succ, freezeL, resVs, oneOr, Option.map_some, Option.map_none, List.map_cons, List.map_nil, if_true, if_false, Bool.not_true, Bool.not_false, Bool.false_eq_true, reduceIte, decide_true, decide_false, Int.reduceLT, Int.reduceLE, Int.reduceGT, Int.reduceGE, Int.reduceEq, Int.reduceBEq, Int.reduceBNe, load_ptr, ldV_some, cellAt_cells, List.getElem?_cons_zero, List.getElem?_cons_succ, store_ptr, stO_some, setAt_0, setAt_1, setAt_2, setAt_3, setAt_4, setAt_5, setAt_6, setAt_7, setAt_8, setAt_9, setAt_10, setAt_11, setAt_12, cells_int, cells_bool, cells_str, cells_nils, cells_nilp, cells_ptr, cells_sl, cells_u8, cells_u16, cells_agg, get_upd_is, Option.isSome_some, upd_upd, ev1_nchkV, ev1_faV, nchkV_ptr, faV_ptr, ev1_extV, extV_tup, eqptr_nil, eqptr_ptr, Nat.zero_add, Nat.add_zero, qPL0, qPL1, qPL2, qPL3, qPL4, qPL5, beq_self_eq_true, qED0, qED1, placeR]
          exact ⟨_, rfl, rfl⟩
      · cases h4
  · rintro e S ⟨Bj, n, h1, h2, h3, h4, h5⟩
    rw [h1]
    have q : (((ps.length : Nat) : Int) < ((ps.length : Nat) : Int)) = False := eq_false (by omega)
    rw [List.drop_length] at h4
    simp only [hearK, Option.some.injEq, Prod.mk.injEq] at h4
    obtain ⟨rfl, h4⟩ := h4
    have hn : y' - y = n := by omega
    rw [hn]
    have hx : evC tabGl (evO k) k M48b0 (E48 tb loss (n : Nat) v (ps.length : Nat) (ps.length : Nat)) S = some (.exit 0, X48 tb loss (n : Nat) v (ps.length : Nat), S) := by
      simp only [M48b0, E48, X48, q, qES0, qES1, qES2, env0, List.length_cons, List.length_nil, Nat.reduceAdd, Nat.reduceSub, List.replicate, List.cons_append, List.nil_append, opd, Env.put, Env.at, List.set_cons_zero, List.set_cons_succ, List.getD_cons_zero, List.getD_cons_succ, freezeL, resVs, oneOr, Option.map_some, Option.map_none, List.map_cons, List.map_nil, if_true, if_false, Bool.not_true, Bool.not_false, Bool.false_eq_true, reduceIte, decide_true, decide_false, Int.reduceLT, Int.reduceLE, Int.reduceGT, Int.reduceGE, Int.reduceEq, Int.reduceBEq, Int.reduceBNe, load_ptr, ldV_some, cellAt_cells, List.getElem?_cons_zero, List.getElem?_cons_succ, store_ptr, stO_some, setAt_0, setAt_1, setAt_2, setAt_3, setAt_4, setAt_5, setAt_6, setAt_7, setAt_8, setAt_9, setAt_10, setAt_11, setAt_12, cells_int, cells_bool, cells_str, cells_nils, cells_nilp, cells_ptr, cells_sl, cells_u8, cells_u16, cells_agg, get_upd_is, Option.isSome_some, upd_upd, ev1_nchkV, ev1_faV, nchkV_ptr, faV_ptr, ev1_extV, extV_tup, eqptr_nil, eqptr_ptr, Nat.zero_add, Nat.add_zero, qPL0, qPL1, qPL2, qPL3, qPL4, qPL5, beq_self_eq_true]
    rw [hx]
    exact ⟨⟨S, rfl, h2⟩, fun _ _ h => by cases h⟩
/-- say. -/
theorem say_ev (loss : Int) (W V : Nat) (sz : Int) (s : St) (ta oa ia tb ob ib y y' : Nat) (A B B' : Tn) (l : List Part) (h : Apart s (turnPart ta oa ia sz W A :: turnPart tb ob ib sz V B :: l)) (hA : A.ok = true) (hW : W ≤ 7) (hr : B.role = 1 ∨ B.role = 2) (hh : hearK (lostB loss) 0 (A.says W) (B, y) = some (B', y')) :
    ∃ s', evO 999 48 [.ptr ta 0, .ptr tb 0, .int .i64 loss] s = some (.int .i64 ((y' - y : Nat) : Int), s') ∧ Apart s' (turnPart ta oa ia sz W (A.went W) :: turnPart tb ob ib sz V B' :: l) := by
  obtain ⟨va, S1, p1, p2, p3⟩ := go_tnk 968 h.head hA hW
  have D1 := (h.turnStep p1 (fun C hC => ⟨hC, trivial⟩) p2).1
  obtain ⟨S2, q1, D2⟩ := hearL48 998 (by omega) loss W V sz va (A.says W) p3 (says_le A W hW) S1 ta oa ia tb ob ib y y' A B B' _ D1.swap hr hh (E48 tb loss 0 va ((A.says W).length : Nat) 0) rfl
  have q1' : ∀ e, maskE M48b0l e = E48 tb loss 0 va ((A.says W).length : Nat) 0 → iter (evC tabGl (evO 998) 998 M48b0) M48b0l 998 e S1 = some (.exit 0, X48 tb loss ((y' - y : Nat) : Int) va ((A.says W).length : Nat), S2) := fun e he => by
    rw [← q1, show (998 : Nat) = 997 + 1 from rfl, iter_succ, iter_succ, he]
    rfl
  refine ⟨S2, ?_, D2.swap⟩
  have hl := p3.len
  rw [show (999 : Nat) = 998 + 1 from rfl, evO_in rfl tab48]
  simp only [M48, p1, hl, evC_loop, qES0, qES1, qES2, env0, List.length_cons, List.length_nil, Nat.reduceAdd, Nat.reduceSub, List.replicate, List.cons_append, List.nil_append, opd, Env.put, Env.at, List.set_cons_zero, List.set_cons_succ, List.getD_cons_zero, List.getD_cons_succ, freezeL, resVs, oneOr, Option.map_some, Option.map_none, List.map_cons, List.map_nil, if_true, if_false, Bool.not_true, Bool.not_false, Bool.false_eq_true, reduceIte, decide_true, decide_false, Int.reduceLT, Int.reduceLE, Int.reduceGT, Int.reduceGE, Int.reduceEq, Int.reduceBEq, Int.reduceBNe, load_ptr, ldV_some, cellAt_cells, List.getElem?_cons_zero, List.getElem?_cons_succ, store_ptr, stO_some, setAt_0, setAt_1, setAt_2, setAt_3, setAt_4, setAt_5, setAt_6, setAt_7, setAt_8, setAt_9, setAt_10, setAt_11, setAt_12, cells_int, cells_bool, cells_str, cells_nils, cells_nilp, cells_ptr, cells_sl, cells_u8, cells_u16, cells_agg, get_upd_is, Option.isSome_some, upd_upd, ev1_nchkV, ev1_faV, nchkV_ptr, faV_ptr, ev1_extV, extV_tup, eqptr_nil, eqptr_ptr, Nat.zero_add, Nat.add_zero, qPL0, qPL1, qPL2, qPL3, qPL4, qPL5, beq_self_eq_true, qED0, qED1, placeR]
  rw [q1']
  rotate_left
  · rfl
  dsimp only [X48]
  simp only [M48r0, qES0, qES1, qES2, env0, List.length_cons, List.length_nil, Nat.reduceAdd, Nat.reduceSub, List.replicate, List.cons_append, List.nil_append, opd, Env.put, Env.at, List.set_cons_zero, List.set_cons_succ, List.getD_cons_zero, List.getD_cons_succ, freezeL, resVs, oneOr, Option.map_some, Option.map_none, List.map_cons, List.map_nil, if_true, if_false, Bool.not_true, Bool.not_false, Bool.false_eq_true, reduceIte, decide_true, decide_false, Int.reduceLT, Int.reduceLE, Int.reduceGT, Int.reduceGE, Int.reduceEq, Int.reduceBEq, Int.reduceBNe, load_ptr, ldV_some, cellAt_cells, List.getElem?_cons_zero, List.getElem?_cons_succ, store_ptr, stO_some, setAt_0, setAt_1, setAt_2, setAt_3, setAt_4, setAt_5, setAt_6, setAt_7, setAt_8, setAt_9, setAt_10, setAt_11, setAt_12, cells_int, cells_bool, cells_str, cells_nils, cells_nilp, cells_ptr, cells_sl, cells_u8, cells_u16, cells_agg, get_upd_is, Option.isSome_some, upd_upd, ev1_nchkV, ev1_faV, nchkV_ptr, faV_ptr, ev1_extV, extV_tup, eqptr_nil, eqptr_ptr, Nat.zero_add, Nat.add_zero, qPL0, qPL1, qPL2, qPL3, qPL4, qPL5, beq_self_eq_true, qED0, qED1, placeR]
def tn0 (R : Int) : Tn := ⟨R, R == 1, [], 0, 0, 0, false⟩
theorem Apart.newTurn {s : St} {l : List Part} (h : Apart s l) (R : Int) (hR : R = 1 ∨ R = 2) (baud silent win size wait sz : Int) (hsz : (if 64 < size then 64 else size) = sz) (W : Nat) (hW : clampW win = (W : Int)) :
    ∃ s' t o i, evO 999 39 [.int .i64 R, .agg [.int .i64 baud, .int .i64 silent, .int .i64 win, .int .i64 size, .int .i64 wait]] s = some (.ptr t 0, s') ∧ Apart s' (turnPart t o i sz W (tn0 R) :: l) := by
  obtain ⟨s1, t, o, i, p1, p2, p3, p4, p5, _⟩ := new_evT 997 s R baud silent win size wait hR
  rw [hsz, hW] at p2
  have p2' : TnAt s1 t o i sz W (tn0 R) := p2
  refine ⟨s1, t, o, i, p1, (h.no.step (p' := turnPart t o i sz W (tn0 R)) p1 ⟨trivial, ⟨trivial, trivial, trivial, trivial, trivial, trivial⟩, trivial⟩ ⟨Nat.le_refl _, fun _ h => .inl h, fun j z cs hj hg => ?_, fun j z cs hj hg => ?_, fun j hj => rfl, h.wf⟩ p2' fun hf j hj => ?_).1⟩
  · rcases hj with hj | hj
    · rw [h.wf j hj] at hg; cases hg
    · exact hj.elim
  · rcases hj with hj | hj
    · rw [h.wf j hj] at hg; cases hg
    · exact hj.elim
  · left
    rcases hj with rfl | rfl | rfl | ⟨W', cs', m, u, z', f', st', hk⟩
    · omega
    · omega
    · omega
    · rcases (hf.cells o 0 _ (.inl (by omega)) hk).2.1.2 with h1 | h1
      · exact h1
      · exact h1.elim
end Go.Proofs.YtochnineebgbgaaDoor
