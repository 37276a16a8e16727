/- TurnSwap: one side hears what the other one says. No conditions. -/
import Derived.Test.YtochnineebgbgaaDoorSwp1
import Derived.Test.YtochnineebgbgaaDoorIxp
set_option linter.unusedSimpArgs false
set_option linter.unusedVariables false
set_option maxRecDepth 100000
set_option maxHeartbeats 4000000
namespace Go.Proofs.YtochnineebgbgaaDoor
open Go Go.Ab
/-- Two turns, and an array of two numbers apart from both. -/
structure DuoG (s : St) (ta oa ia tb ob ib : Nat) (sz : Int) (W : Nat) (A B : Tn) (G : Nat) (x y : Nat) : Prop where
  duo : Duo s ta oa ia tb ob ib sz W A B
  g : s.get G = some (.cells 0 [.int .i64 (x : Nat), .int .i64 (y : Nat)])
  na : ¬ Ft s ta oa ia G
  nb : ¬ Ft s tb ob ib G
section
variable {s s' : St} {ta oa ia tb ob ib G x y : Nat} {sz : Int} {W : Nat} {A B A' B' : Tn}
theorem DuoG.symm (h : DuoG s ta oa ia tb ob ib sz W A B G x y) : DuoG s tb ob ib ta oa ia sz W B A G x y := ⟨h.duo.symm, h.g, h.nb, h.na⟩
theorem DuoG.lt (h : DuoG s ta oa ia tb ob ib sz W A B G x y) : G < s.next := by
  by_cases hl : G < s.next
  · exact hl
  · have := h.g
    rw [h.duo.wf G (by omega)] at this
    cases this
theorem DuoG.new (h : DuoG s ta oa ia tb ob ib sz W A B G x y) (q : Ab.Obj) : DuoG (s.new q) ta oa ia tb ob ib sz W A B G x y := by
  have ga : ∀ j, Ft s ta oa ia j → (s.new q).get j = s.get j := fun j hj => get_new_ne _ _ (by have := h.duo.a.ft_lt hj; omega)
  have gb : ∀ j, Ft s tb ob ib j → (s.new q).get j = s.get j := fun j hj => get_new_ne _ _ (by have := h.duo.b.ft_lt hj; omega)
  obtain ⟨_, a2⟩ := TurnAt.keep h.duo.a (s' := s.new q) (by simp [St.new]) ga
  obtain ⟨_, b2⟩ := TurnAt.keep h.duo.b (s' := s.new q) (by simp [St.new]) gb
  exact ⟨h.duo.new q, by rw [get_new_ne _ _ (by have := h.lt; omega)]; exact h.g, fun hh => h.na (a2 _ hh), fun hh => h.nb (b2 _ hh)⟩
theorem DuoG.setG (h : DuoG s ta oa ia tb ob ib sz W A B G x y) (x' y' : Nat) : DuoG (s.upd G (.cells 0 [.int .i64 (x' : Nat), .int .i64 (y' : Nat)])) ta oa ia tb ob ib sz W A B G x' y' := by
  have ga : ∀ j, Ft s ta oa ia j → (s.upd G (.cells 0 [.int .i64 (x' : Nat), .int .i64 (y' : Nat)])).get j = s.get j := fun j hj => get_upd_ne _ _ (fun e => h.na (e ▸ hj))
  have gb : ∀ j, Ft s tb ob ib j → (s.upd G (.cells 0 [.int .i64 (x' : Nat), .int .i64 (y' : Nat)])).get j = s.get j := fun j hj => get_upd_ne _ _ (fun e => h.nb (e ▸ hj))
  obtain ⟨_, a2⟩ := TurnAt.keep h.duo.a (s' := s.upd G (.cells 0 [.int .i64 (x' : Nat), .int .i64 (y' : Nat)])) (Nat.le_refl _) ga
  obtain ⟨_, b2⟩ := TurnAt.keep h.duo.b (s' := s.upd G (.cells 0 [.int .i64 (x' : Nat), .int .i64 (y' : Nat)])) (Nat.le_refl _) gb
  exact ⟨h.duo.upd h.g h.na h.nb _, get_upd_eq _ _ h.g, fun hh => h.na (a2 _ hh), fun hh => h.nb (b2 _ hh)⟩
theorem DuoG.step (h : DuoG s ta oa ia tb ob ib sz W A B G x y) {k f : Nat} {args : List AV} {v : AV} (he : evO k f args s = some (v, s')) (hg : ∀ C : Nat → Prop, C ta → inL C args) (hA : TnAt s' ta oa ia sz W A') :
    DuoG s' ta oa ia tb ob ib sz W A' B G x y := by
  obtain ⟨d1, d2, d3⟩ := h.duo.step he hg hA
  have hf := (evO_reach _ s k f args s v s' he (hg _ (.inr (.inl rfl))) (TurnAt.fp h.duo.a h.duo.wf)).2
  obtain ⟨_, b2⟩ := TurnAt.keep h.duo.b hf.le (fun j hj => d3 j (h.duo.b.ft_lt hj) (fun hk => h.duo.apart j hk hj))
  have hl := h.lt
  refine ⟨d1, (d3 G hl h.na).trans h.g, fun hj => ?_, fun hj => h.nb (b2 G hj)⟩
  have hCj : s.next ≤ G ∨ Ft s ta oa ia G := by
    rcases hj with e | e | e | ⟨W', cs', n, u, z', f', st', hj⟩
    · exact .inr (.inl e)
    · exact .inr (.inr (.inl e))
    · exact .inr (.inr (.inr (.inl e)))
    · exact (hf.cells oa 0 _ (.inr (.inr (.inl rfl))) hj).2.1.2
  rcases hCj with h1 | h1
  · omega
  · exact h.na h1
end
theorem FrV.at_ {v : AV} {ps : List Fm} (h : FrV v ps) (j : Nat) (hj : j < ps.length) : ∃ r, ixaV 9 v (.int .i64 (j : Int)) = some (.rp r) ∧ Ab.cut r 0 (some 9) = some (.agg (plC 0 0 ps[j].cmd ps[j].kind ps[j].sort ps[j].nr ps[j].ns ps[j].pf ps[j].body)) := by
  rcases h with ⟨_, rfl⟩ | ⟨cs, rfl, h⟩
  · simp at hj
  · obtain ⟨rest, hr⟩ := h j hj
    refine ⟨cs.drop (j * 9), ?_, by rw [hr]; exact cut_pl _ _ _ _ _ _ _ _ _ _⟩
    simp only [ixaV, idx]
    rw [if_pos ⟨by omega, by omega⟩]
    simp
def E19a (ta tb G n : Nat) (i : Int) (v : AV) (len j : Int) : Env := [.undef, .undef, .undef, .undef, .undef, .undef, .ptr ta 0, .ptr tb 0, .undef, .ptr G 0, .int .i64 (n : Nat), .int .i64 i, .undef, .undef, .undef, .undef, .undef, .undef, .undef, .undef, .undef, .undef, .undef, .undef, .undef, .undef, .undef, .undef, .undef, .undef, .undef, .undef, .undef, .undef, .undef, .undef, .undef, .undef, .undef, .undef, .undef, .undef, .undef, .undef, .undef, .undef, .undef, .undef, .undef, .undef, .undef, .undef, .undef, v, .int .i64 len, .int .i64 j, .undef, .undef, .undef, .undef, .undef, .undef, .undef, .undef, .undef, .undef, .undef, .undef, .undef, .undef, .undef, .undef, .undef, .undef, .undef, .undef, .undef, .undef, .undef, .undef, .undef, .undef, .undef, .undef, .undef, .undef, .undef, .undef, .undef, .undef, .undef, .undef, .undef, .undef, .undef, .undef, .undef, .undef, .undef, .undef, .undef, .undef, .undef, .undef, .undef, .undef, .undef, .undef, .undef, .undef, .undef, .undef, .undef, .undef, .undef, .undef, .undef, .undef, .undef, .undef, .undef, .undef, .undef, .undef, .undef, .undef, .undef, .undef, .undef, .undef, .undef, .undef, .undef, .undef, .undef, .undef, .undef, .undef, .undef, .undef, .undef, .undef, .undef, .undef, .undef, .undef, .undef, .undef, .undef, .undef, .undef, .undef, .undef, .undef, .undef, .undef, .undef, .undef, .undef]
def X19a (ta tb G n : Nat) (i : Int) (v : AV) (len : Int) : Env := [.undef, .undef, .undef, .undef, .undef, .undef, .ptr ta 0, .ptr tb 0, .undef, .ptr G 0, .int .i64 (n : Nat), .int .i64 i, .undef, .undef, .undef, .undef, .undef, .undef, .undef, .undef, .undef, .undef, .undef, .undef, .undef, .undef, .undef, .undef, .undef, .undef, .undef, .undef, .undef, .undef, .undef, .undef, .undef, .undef, .undef, .undef, .undef, .undef, .undef, .undef, .undef, .undef, .undef, .undef, .undef, .undef, .undef, .undef, .undef, v, .int .i64 len, .int .i64 len, .bool false, .undef, .undef, .undef, .undef, .undef, .undef, .undef, .undef, .undef, .undef, .undef, .undef, .undef, .undef, .undef, .undef, .undef, .undef, .undef, .undef, .undef, .undef, .undef, .undef, .undef, .undef, .undef, .undef, .undef, .undef, .undef, .undef, .undef, .undef, .undef, .undef, .undef, .undef, .undef, .undef, .undef, .undef, .undef, .undef, .undef, .undef, .undef, .undef, .undef, .undef, .undef, .undef, .undef, .undef, .undef, .undef, .undef, .undef, .undef, .undef, .undef, .undef, .undef, .undef, .undef, .undef, .undef, .undef, .undef, .undef, .undef, .undef, .undef, .undef, .undef, .undef, .undef, .undef, .undef, .undef, .undef, .undef, .undef, .undef, .undef, .undef, .undef, .undef, .undef, .undef, .undef, .undef, .undef, .undef, .undef, .undef, .undef, .undef, .undef, .undef, .undef, .undef]
theorem hearL1 (n : Nat) (i : Int) (W : Nat) (v : AV) (ps : List Fm) (hv : FrV v ps) (hl8 : ps.length ≤ 8) (s : St) (ta oa ia tb ob ib G x y y' : Nat) (A B B' : Tn) (h : DuoG s ta oa ia tb ob ib 10 W A B G x y) (hr : B.role = 1 ∨ B.role = 2) (hh : hears 0 ps (B, y) = some (B', y')) (hy : y ≤ 300) (e : Env) (he : maskE M19b1l e = E19a ta tb G n i v (ps.length : Nat) 0) :
    ∃ S, iter (evC tabGl (evO 999) 999 M19b1) M19b1l 999 e s = some (.exit 4, X19a ta tb G n i v (ps.length : Nat), S) ∧ DuoG S ta oa ia tb ob ib 10 W A B' G x y' := by
  refine iter_leave (evC tabGl (evO 999) 999 M19b1) M19b1l (fun j e S => ∃ Bj yj, maskE M19b1l e = E19a ta tb G n i v (ps.length : Nat) (j : Nat) ∧ DuoG S ta oa ia tb ob ib 10 W A Bj G x yj ∧ Bj.role = B.role ∧ hears 0 (ps.drop j) (Bj, yj) = some (B', y') ∧ yj ≤ y + j)
    (fun out => ∃ S, out = some (.exit 4, X19a ta tb G n i v (ps.length : Nat), S) ∧ DuoG S ta oa ia tb ob ib 10 W A B' G x y') ps.length ?_ ?_ ps.length 0 _ _ 999 (by omega) ⟨B, y, he, h, rfl, hh, by omega⟩ (by omega)
  · rintro j e S hj ⟨Bj, yj, h1, h2, h3, h4, h5⟩
    rw [h1]
    left
    obtain ⟨r, i1, i2⟩ := hv.at_ j hj
    rw [List.drop_eq_getElem_cons hj] at h4
    have q : ((j : Int) < ((ps.length : Nat) : Int)) = True := eq_true (by omega)
    have w1 : IntKind.i64.wrap ((j : Int) + 1) = ((j + 1 : Nat) : Int) := (wrapI _ (by omega) (by omega)).trans (by omega)
    generalize ps[j] = p at *
    have D1 := h2.new (.cells 0 (plC 0 0 p.cmd p.kind p.sort p.nr p.ns p.pf p.body))
    simp only [hears] at h4
    split at h4
    · rename_i hcan
      obtain ⟨S2, p1, p2⟩ := take_tn D1.duo.b (h3 ▸ hr) hcan
      have D2 := (D1.symm.step p1 (fun C hC => ⟨hC, ⟨trivial, trivial, trivial, trivial, trivial, trivial, trivial, trivial, trivial, trivial⟩, trivial⟩) p2).symm
      have p1' := p1
      rw [show S.new (.cells 0 (plC 0 0 p.cmd p.kind p.sort p.nr p.ns p.pf p.body)) = S.pl [.cells 0 (plC 0 0 p.cmd p.kind p.sort p.nr p.ns p.pf p.body)] from rfl] at p1'
      split at h4
      · rename_i ht
        split at h4
        · rename_i hb
          rw [if_pos ht] at p1'
          have gG := D2.g
          have ip1 : ixpV 2 1 (.ptr G 0) (.int .i64 1) = some (.ptr G 1) := rfl
          have D3 := D2.setG x (yj + 1)
          have h34 := o34 998 yj
          have ns : ∀ b : List UInt8, binV .neq (.str b) (.str b) = some (.bool false) := fun b => by
            show some (AV.bool (!(b == b))) = _
            simp
          have w2 : IntKind.i64.wrap ((yj : Int) + 1) = ((yj + 1 : Nat) : Int) := (wrapI _ (by omega) (by omega)).trans (by omega)
          have nb : binV .neq (.str p.body) (.str (bd yj)) = some (.bool false) := by rw [hb, Nat.add_zero]; exact ns _
          suffices hs : ∃ e', evC tabGl (evO 999) 999 M19b1 (E19a ta tb G n i v (ps.length : Nat) (j : Nat)) S = some (.nrm, e', S2.upd G (.cells 0 [.int .i64 (x : Nat), .int .i64 ((yj + 1 : Nat) : Int)])) ∧ maskE M19b1l e' = E19a ta tb G n i v (ps.length : Nat) ((j + 1 : Nat) : Int) by
            obtain ⟨e', g1, g2⟩ := hs
            exact ⟨e', _, g1, Bj.took p, yj + 1, g2, D3, h3, h4, by omega⟩
          unfold plC at i2 p1'
          rw [show S = S.pl [] from rfl]
          simp only [M19b1, E19a, q, w1, w2, i1, i2, p1', gG, h34, nb, ip1, ev1_ixpV, loadR_rp, qES0, qES1, qES2, env0, List.length_cons, List.length_nil, Nat.reduceAdd, Nat.reduceSub, List.replicate, List.cons_append, List.nil_append, opd, Env.put, Env.at, List.set_cons_zero, List.set_cons_succ, List.getD_cons_zero, List.getD_cons_succ, freezeL, resVs, oneOr, Option.map_some, Option.map_none, List.map_cons, List.map_nil, if_true, if_false, Bool.not_true, Bool.not_false, Bool.false_eq_true, reduceIte, decide_true, decide_false, Int.reduceLT, Int.reduceLE, Int.reduceGT, Int.reduceGE, Int.reduceEq, Int.reduceBEq, Int.reduceBNe, load_ptr, ldV_some, cellAt_cells, List.getElem?_cons_zero, List.getElem?_cons_succ, store_ptr, stO_some, setAt_0, setAt_1, setAt_2, setAt_3, setAt_4, setAt_5, setAt_6, setAt_7, setAt_8, setAt_9, setAt_10, setAt_11, setAt_12, cells_int, cells_bool, cells_str, cells_nils, cells_nilp, cells_ptr, cells_sl, cells_u8, cells_u16, cells_agg, get_upd_is, Option.isSome_some, upd_upd, ev1_nchkV, ev1_faV, nchkV_ptr, faV_ptr, ev1_extV, extV_tup, eqptr_nil, eqptr_ptr, Nat.zero_add, Nat.add_zero, qPL0, qPL1, qPL2, qPL3, qPL4, qPL5, beq_self_eq_true, qED0, qED1, placeR]
          exact ⟨_, rfl, rfl⟩
        · cases h4
      · rename_i ht
        rw [if_neg ht] at p1'
        suffices hs : ∃ e', evC tabGl (evO 999) 999 M19b1 (E19a ta tb G n i v (ps.length : Nat) (j : Nat)) S = some (.nrm, e', S2) ∧ maskE M19b1l e' = E19a ta tb G n i v (ps.length : Nat) ((j + 1 : Nat) : Int) by
          obtain ⟨e', g1, g2⟩ := hs
          exact ⟨e', _, g1, Bj.took p, yj, g2, D2, h3, h4, by omega⟩
        unfold plC at i2 p1'
        rw [show S = S.pl [] from rfl]
        simp only [M19b1, E19a, q, w1, i1, i2, p1', loadR_rp, qES0, qES1, qES2, env0, List.length_cons, List.length_nil, Nat.reduceAdd, Nat.reduceSub, List.replicate, List.cons_append, List.nil_append, opd, Env.put, Env.at, List.set_cons_zero, List.set_cons_succ, List.getD_cons_zero, List.getD_cons_succ, freezeL, resVs, oneOr, Option.map_some, Option.map_none, List.map_cons, List.map_nil, if_true, if_false, Bool.not_true, Bool.not_false, Bool.false_eq_true, reduceIte, decide_true, decide_false, Int.reduceLT, Int.reduceLE, Int.reduceGT, Int.reduceGE, Int.reduceEq, Int.reduceBEq, Int.reduceBNe, load_ptr, ldV_some, cellAt_cells, List.getElem?_cons_zero, List.getElem?_cons_succ, store_ptr, stO_some, setAt_0, setAt_1, setAt_2, setAt_3, setAt_4, setAt_5, setAt_6, setAt_7, setAt_8, setAt_9, setAt_10, setAt_11, setAt_12, cells_int, cells_bool, cells_str, cells_nils, cells_nilp, cells_ptr, cells_sl, cells_u8, cells_u16, cells_agg, get_upd_is, Option.isSome_some, upd_upd, ev1_nchkV, ev1_faV, nchkV_ptr, faV_ptr, ev1_extV, extV_tup, eqptr_nil, eqptr_ptr, Nat.zero_add, Nat.add_zero, qPL0, qPL1, qPL2, qPL3, qPL4, qPL5, beq_self_eq_true, qED0, qED1, placeR]
        exact ⟨_, rfl, rfl⟩
    · cases h4
  · rintro e S ⟨Bj, yj, h1, h2, h3, h4, h5⟩
    rw [h1]
    have q : (((ps.length : Nat) : Int) < ((ps.length : Nat) : Int)) = False := eq_false (by omega)
    rw [List.drop_length] at h4
    simp only [hears, Option.some.injEq, Prod.mk.injEq] at h4
    obtain ⟨rfl, rfl⟩ := h4
    have hx : evC tabGl (evO 999) 999 M19b1 (E19a ta tb G n i v (ps.length : Nat) (ps.length : Nat)) S = some (.exit 4, X19a ta tb G n i v (ps.length : Nat), S) := by
      simp only [M19b1, E19a, X19a, q, qES0, qES1, qES2, env0, List.length_cons, List.length_nil, Nat.reduceAdd, Nat.reduceSub, List.replicate, List.cons_append, List.nil_append, opd, Env.put, Env.at, List.set_cons_zero, List.set_cons_succ, List.getD_cons_zero, List.getD_cons_succ, freezeL, resVs, oneOr, Option.map_some, Option.map_none, List.map_cons, List.map_nil, if_true, if_false, Bool.not_true, Bool.not_false, Bool.false_eq_true, reduceIte, decide_true, decide_false, Int.reduceLT, Int.reduceLE, Int.reduceGT, Int.reduceGE, Int.reduceEq, Int.reduceBEq, Int.reduceBNe, load_ptr, ldV_some, cellAt_cells, List.getElem?_cons_zero, List.getElem?_cons_succ, store_ptr, stO_some, setAt_0, setAt_1, setAt_2, setAt_3, setAt_4, setAt_5, setAt_6, setAt_7, setAt_8, setAt_9, setAt_10, setAt_11, setAt_12, cells_int, cells_bool, cells_str, cells_nils, cells_nilp, cells_ptr, cells_sl, cells_u8, cells_u16, cells_agg, get_upd_is, Option.isSome_some, upd_upd, ev1_nchkV, ev1_faV, nchkV_ptr, faV_ptr, ev1_extV, extV_tup, eqptr_nil, eqptr_ptr, Nat.zero_add, Nat.add_zero, qPL0, qPL1, qPL2, qPL3, qPL4, qPL5, beq_self_eq_true]
    rw [hx]
    exact ⟨⟨S, rfl, h2⟩, fun _ _ h => by cases h⟩
def E19b (ta tb G n : Nat) (i : Int) (v : AV) (len j : Int) : Env := [.undef, .undef, .undef, .undef, .undef, .undef, .ptr ta 0, .ptr tb 0, .undef, .ptr G 0, .int .i64 (n : Nat), .int .i64 i, .undef, .undef, .undef, .undef, .undef, .undef, .undef, .undef, .undef, .undef, .undef, .undef, .undef, .undef, .undef, .undef, .undef, .undef, .undef, .undef, .undef, .undef, .undef, .undef, .undef, .undef, .undef, .undef, .undef, .undef, .undef, .undef, .undef, .undef, .undef, .undef, .undef, .undef, .undef, .undef, .undef, .undef, .undef, .undef, .undef, .undef, .undef, .undef, .undef, .undef, .undef, .undef, .undef, .undef, .undef, .undef, .undef, .undef, .undef, .undef, .undef, .undef, .undef, .undef, .undef, v, .int .i64 len, .int .i64 j, .undef, .undef, .undef, .undef, .undef, .undef, .undef, .undef, .undef, .undef, .undef, .undef, .undef, .undef, .undef, .undef, .undef, .undef, .undef, .undef, .undef, .undef, .undef, .undef, .undef, .undef, .undef, .undef, .undef, .undef, .undef, .undef, .undef, .undef, .undef, .undef, .undef, .undef, .undef, .undef, .undef, .undef, .undef, .undef, .undef, .undef, .undef, .undef, .undef, .undef, .undef, .undef, .undef, .undef, .undef, .undef, .undef, .undef, .undef, .undef, .undef, .undef, .undef, .undef, .undef, .undef, .undef, .undef, .undef, .undef, .undef, .undef, .undef, .undef, .undef, .undef, .undef, .undef, .undef]
def X19b (ta tb G n : Nat) (i : Int) (v : AV) (len : Int) : Env := [.undef, .undef, .undef, .undef, .undef, .undef, .ptr ta 0, .ptr tb 0, .undef, .ptr G 0, .int .i64 (n : Nat), .int .i64 i, .undef, .undef, .undef, .undef, .undef, .undef, .undef, .undef, .undef, .undef, .undef, .undef, .undef, .undef, .undef, .undef, .undef, .undef, .undef, .undef, .undef, .undef, .undef, .undef, .undef, .undef, .undef, .undef, .undef, .undef, .undef, .undef, .undef, .undef, .undef, .undef, .undef, .undef, .undef, .undef, .undef, .undef, .undef, .undef, .undef, .undef, .undef, .undef, .undef, .undef, .undef, .undef, .undef, .undef, .undef, .undef, .undef, .undef, .undef, .undef, .undef, .undef, .undef, .undef, .undef, v, .int .i64 len, .int .i64 len, .bool false, .undef, .undef, .undef, .undef, .undef, .undef, .undef, .undef, .undef, .undef, .undef, .undef, .undef, .undef, .undef, .undef, .undef, .undef, .undef, .undef, .undef, .undef, .undef, .undef, .undef, .undef, .undef, .undef, .undef, .undef, .undef, .undef, .undef, .undef, .undef, .undef, .undef, .undef, .undef, .undef, .undef, .undef, .undef, .undef, .undef, .undef, .undef, .undef, .undef, .undef, .undef, .undef, .undef, .undef, .undef, .undef, .undef, .undef, .undef, .undef, .undef, .undef, .undef, .undef, .undef, .undef, .undef, .undef, .undef, .undef, .undef, .undef, .undef, .undef, .undef, .undef, .undef, .undef]
theorem hearL0 (n : Nat) (i : Int) (W : Nat) (v : AV) (ps : List Fm) (hv : FrV v ps) (hl8 : ps.length ≤ 8) (s : St) (ta oa ia tb ob ib G x y x' : Nat) (A B A' : Tn) (h : DuoG s ta oa ia tb ob ib 10 W A B G x y) (hr : A.role = 1 ∨ A.role = 2) (hh : hears 10 ps (A, x) = some (A', x')) (hy : x ≤ 300) (e : Env) (he : maskE M19b0l e = E19b ta tb G n i v (ps.length : Nat) 0) :
    ∃ S, iter (evC tabGl (evO 999) 999 M19b0) M19b0l 999 e s = some (.exit 6, X19b ta tb G n i v (ps.length : Nat), S) ∧ DuoG S ta oa ia tb ob ib 10 W A' B G x' y := by
  refine iter_leave (evC tabGl (evO 999) 999 M19b0) M19b0l (fun j e S => ∃ Aj xj, maskE M19b0l e = E19b ta tb G n i v (ps.length : Nat) (j : Nat) ∧ DuoG S ta oa ia tb ob ib 10 W Aj B G xj y ∧ Aj.role = A.role ∧ hears 10 (ps.drop j) (Aj, xj) = some (A', x') ∧ xj ≤ x + j)
    (fun out => ∃ S, out = some (.exit 6, X19b ta tb G n i v (ps.length : Nat), S) ∧ DuoG S ta oa ia tb ob ib 10 W A' B G x' y) ps.length ?_ ?_ ps.length 0 _ _ 999 (by omega) ⟨A, x, he, h, rfl, hh, by omega⟩ (by omega)
  · rintro j e S hj ⟨Aj, xj, h1, h2, h3, h4, h5⟩
    rw [h1]
    left
    obtain ⟨r, i1, i2⟩ := hv.at_ j hj
    rw [List.drop_eq_getElem_cons hj] at h4
    have q : ((j : Int) < ((ps.length : Nat) : Int)) = True := eq_true (by omega)
    have w1 : IntKind.i64.wrap ((j : Int) + 1) = ((j + 1 : Nat) : Int) := (wrapI _ (by omega) (by omega)).trans (by omega)
    generalize ps[j] = p at *
    have D1 := h2.new (.cells 0 (plC 0 0 p.cmd p.kind p.sort p.nr p.ns p.pf p.body))
    simp only [hears] at h4
    split at h4
    · rename_i hcan
      obtain ⟨S2, p1, p2⟩ := take_tn D1.duo.a (h3 ▸ hr) hcan
      have D2 := D1.step p1 (fun C hC => ⟨hC, ⟨trivial, trivial, trivial, trivial, trivial, trivial, trivial, trivial, trivial, trivial⟩, trivial⟩) p2
      have p1' := p1
      rw [show S.new (.cells 0 (plC 0 0 p.cmd p.kind p.sort p.nr p.ns p.pf p.body)) = S.pl [.cells 0 (plC 0 0 p.cmd p.kind p.sort p.nr p.ns p.pf p.body)] from rfl] at p1'
      split at h4
      · rename_i ht
        split at h4
        · rename_i hb
          rw [if_pos ht] at p1'
          have gG := D2.g
          have ip1 : ixpV 2 1 (.ptr G 0) (.int .i64 0) = some (.ptr G 0) := rfl
          have D3 := D2.setG (xj + 1) y
          have h34 := o34 998 (xj + 10)
          have ns : ∀ b : List UInt8, binV .neq (.str b) (.str b) = some (.bool false) := fun b => by
            show some (AV.bool (!(b == b))) = _
            simp
          have w3 : IntKind.i64.wrap ((xj : Int) + 10) = ((xj + 10 : Nat) : Int) := (wrapI _ (by omega) (by omega)).trans (by omega)
          have w2 : IntKind.i64.wrap ((xj : Int) + 1) = ((xj + 1 : Nat) : Int) := (wrapI _ (by omega) (by omega)).trans (by omega)
          have nb : binV .neq (.str p.body) (.str (bd (xj + 10))) = some (.bool false) := by rw [hb]; exact ns _
          suffices hs : ∃ e', evC tabGl (evO 999) 999 M19b0 (E19b ta tb G n i v (ps.length : Nat) (j : Nat)) S = some (.nrm, e', S2.upd G (.cells 0 [.int .i64 ((xj + 1 : Nat) : Int), .int .i64 (y : Nat)])) ∧ maskE M19b0l e' = E19b ta tb G n i v (ps.length : Nat) ((j + 1 : Nat) : Int) by
            obtain ⟨e', g1, g2⟩ := hs
            exact ⟨e', _, g1, Aj.took p, xj + 1, g2, D3, h3, h4, by omega⟩
          unfold plC at i2 p1'
          rw [show S = S.pl [] from rfl]
          simp only [M19b0, E19b, q, w1, w2, w3, i1, i2, p1', gG, h34, nb, ip1, ev1_ixpV, loadR_rp, qES0, qES1, qES2, env0, List.length_cons, List.length_nil, Nat.reduceAdd, Nat.reduceSub, List.replicate, List.cons_append, List.nil_append, opd, Env.put, Env.at, List.set_cons_zero, List.set_cons_succ, List.getD_cons_zero, List.getD_cons_succ, freezeL, resVs, oneOr, Option.map_some, Option.map_none, List.map_cons, List.map_nil, if_true, if_false, Bool.not_true, Bool.not_false, Bool.false_eq_true, reduceIte, decide_true, decide_false, Int.reduceLT, Int.reduceLE, Int.reduceGT, Int.reduceGE, Int.reduceEq, Int.reduceBEq, Int.reduceBNe, load_ptr, ldV_some, cellAt_cells, List.getElem?_cons_zero, List.getElem?_cons_succ, store_ptr, stO_some, setAt_0, setAt_1, setAt_2, setAt_3, setAt_4, setAt_5, setAt_6, setAt_7, setAt_8, setAt_9, setAt_10, setAt_11, setAt_12, cells_int, cells_bool, cells_str, cells_nils, cells_nilp, cells_ptr, cells_sl, cells_u8, cells_u16, cells_agg, get_upd_is, Option.isSome_some, upd_upd, ev1_nchkV, ev1_faV, nchkV_ptr, faV_ptr, ev1_extV, extV_tup, eqptr_nil, eqptr_ptr, Nat.zero_add, Nat.add_zero, qPL0, qPL1, qPL2, qPL3, qPL4, qPL5, beq_self_eq_true, qED0, qED1, placeR]
          exact ⟨_, rfl, rfl⟩
        · cases h4
      · rename_i ht
        rw [if_neg ht] at p1'
        suffices hs : ∃ e', evC tabGl (evO 999) 999 M19b0 (E19b ta tb G n i v (ps.length : Nat) (j : Nat)) S = some (.nrm, e', S2) ∧ maskE M19b0l e' = E19b ta tb G n i v (ps.length : Nat) ((j + 1 : Nat) : Int) by
          obtain ⟨e', g1, g2⟩ := hs
          exact ⟨e', _, g1, Aj.took p, xj, g2, D2, h3, h4, by omega⟩
        unfold plC at i2 p1'
        rw [show S = S.pl [] from rfl]
        simp only [M19b0, E19b, q, w1, i1, i2, p1', loadR_rp, qES0, qES1, qES2, env0, List.length_cons, List.length_nil, Nat.reduceAdd, Nat.reduceSub, List.replicate, List.cons_append, List.nil_append, opd, Env.put, Env.at, List.set_cons_zero, List.set_cons_succ, List.getD_cons_zero, List.getD_cons_succ, freezeL, resVs, oneOr, Option.map_some, Option.map_none, List.map_cons, List.map_nil, if_true, if_false, Bool.not_true, Bool.not_false, Bool.false_eq_true, reduceIte, decide_true, decide_false, Int.reduceLT, Int.reduceLE, Int.reduceGT, Int.reduceGE, Int.reduceEq, Int.reduceBEq, Int.reduceBNe, load_ptr, ldV_some, cellAt_cells, List.getElem?_cons_zero, List.getElem?_cons_succ, store_ptr, stO_some, setAt_0, setAt_1, setAt_2, setAt_3, setAt_4, setAt_5, setAt_6, setAt_7, setAt_8, setAt_9, setAt_10, setAt_11, setAt_12, cells_int, cells_bool, cells_str, cells_nils, cells_nilp, cells_ptr, cells_sl, cells_u8, cells_u16, cells_agg, get_upd_is, Option.isSome_some, upd_upd, ev1_nchkV, ev1_faV, nchkV_ptr, faV_ptr, ev1_extV, extV_tup, eqptr_nil, eqptr_ptr, Nat.zero_add, Nat.add_zero, qPL0, qPL1, qPL2, qPL3, qPL4, qPL5, beq_self_eq_true, qED0, qED1, placeR]
        exact ⟨_, rfl, rfl⟩
    · cases h4
  · rintro e S ⟨Aj, xj, h1, h2, h3, h4, h5⟩
    rw [h1]
    have q : (((ps.length : Nat) : Int) < ((ps.length : Nat) : Int)) = False := eq_false (by omega)
    rw [List.drop_length] at h4
    simp only [hears, Option.some.injEq, Prod.mk.injEq] at h4
    obtain ⟨rfl, rfl⟩ := h4
    have hx : evC tabGl (evO 999) 999 M19b0 (E19b ta tb G n i v (ps.length : Nat) (ps.length : Nat)) S = some (.exit 6, X19b ta tb G n i v (ps.length : Nat), S) := by
      simp only [M19b0, E19b, X19b, q, qES0, qES1, qES2, env0, List.length_cons, List.length_nil, Nat.reduceAdd, Nat.reduceSub, List.replicate, List.cons_append, List.nil_append, opd, Env.put, Env.at, List.set_cons_zero, List.set_cons_succ, List.getD_cons_zero, List.getD_cons_succ, freezeL, resVs, oneOr, Option.map_some, Option.map_none, List.map_cons, List.map_nil, if_true, if_false, Bool.not_true, Bool.not_false, Bool.false_eq_true, reduceIte, decide_true, decide_false, Int.reduceLT, Int.reduceLE, Int.reduceGT, Int.reduceGE, Int.reduceEq, Int.reduceBEq, Int.reduceBNe, load_ptr, ldV_some, cellAt_cells, List.getElem?_cons_zero, List.getElem?_cons_succ, store_ptr, stO_some, setAt_0, setAt_1, setAt_2, setAt_3, setAt_4, setAt_5, setAt_6, setAt_7, setAt_8, setAt_9, setAt_10, setAt_11, setAt_12, cells_int, cells_bool, cells_str, cells_nils, cells_nilp, cells_ptr, cells_sl, cells_u8, cells_u16, cells_agg, get_upd_is, Option.isSome_some, upd_upd, ev1_nchkV, ev1_faV, nchkV_ptr, faV_ptr, ev1_extV, extV_tup, eqptr_nil, eqptr_ptr, Nat.zero_add, Nat.add_zero, qPL0, qPL1, qPL2, qPL3, qPL4, qPL5, beq_self_eq_true]
    rw [hx]
    exact ⟨⟨S, rfl, h2⟩, fun _ _ h => by cases h⟩
end Go.Proofs.YtochnineebgbgaaDoor
