/- Two turns side by side, each as a Tn of the plain model. No conditions. -/
import Derived.Test.YtochnineebgbgaaDoorFoT
import Derived.Test.YtochnineebgbgaaDoorTSm
import Derived.Test.YtochnineebgbgaaDoorAck
set_option linter.unusedSimpArgs false
set_option linter.unusedVariables false
set_option maxRecDepth 100000
namespace Go.Proofs.YtochnineebgbgaaDoor
open Go Go.Ab
section
variable {s : St} {t o i : Nat} {role size : Int} {mine : Bool} {W : Int} {L : List (List UInt8)} {f st nx : Int} {od : Bool}
theorem TurnAt.ft_lt (h : TurnAt s t o i role size mine W L f st nx od) {j : Nat} (hj : Ft s t o i j) : j < s.next := by
  obtain ⟨h1, h2, h3, h4, h5, h6, h7, h8, lv, h9, h10⟩ := h
  rcases hj with rfl | rfl | rfl | ⟨W', cs', n, v, z', f', st', hj⟩
  · exact h1
  · exact h8
  · exact h2
  · rw [h9] at hj
    cases hj
    rcases h10 with ⟨hx, _⟩ | ⟨tk, v', hx, _, _, ht⟩
    · cases hx
    · cases hx; exact ht
/-- What another one does leaves it as it was. -/
theorem TurnAt.keep (h : TurnAt s t o i role size mine W L f st nx od) {s' : St} (hn : s.next ≤ s'.next) (hs : ∀ j, Ft s t o i j → s'.get j = s.get j) : TurnAt s' t o i role size mine W L f st nx od ∧ ∀ j, Ft s' t o i j → Ft s t o i j := by
  have h0 := h
  obtain ⟨h1, h2, h3, h4, h5, h6, h7, h8, lv, h9, h10⟩ := h
  have e1 := hs t (.inl rfl)
  have e2 := hs o (.inr (.inl rfl))
  have e3 := hs i (.inr (.inr (.inl rfl)))
  refine ⟨⟨by omega, by omega, h3, h4, h5, by rw [e1]; exact h6, by rw [e3]; exact h7, by omega, lv, by rw [e2]; exact h9, ?_⟩, ?_⟩
  · rcases h10 with hx | ⟨tk, v', hx, ht, hne, hlt⟩
    · exact .inl hx
    · refine .inr ⟨tk, v', hx, ?_, hne, by omega⟩
      rw [hs tk (.inr (.inr (.inr ⟨_, _, _, _, _, _, _, by rw [h9, hx]⟩)))]
      exact ht
  · rintro j (rfl | rfl | rfl | ⟨W', cs', n, v, z', f', st', hj⟩)
    · exact .inl rfl
    · exact .inr (.inl rfl)
    · exact .inr (.inr (.inl rfl))
    · rw [e2] at hj
      exact .inr (.inr (.inr ⟨W', cs', n, v, z', f', st', hj⟩))
end
def TnAt (s : St) (t o i : Nat) (sz : Int) (W : Nat) (T : Tn) : Prop := TurnAt s t o i T.role sz T.mine (W : Nat) T.L T.f ((T.st : Nat) : Int) T.nx T.od
/-- Two turns in one heap, apart. -/
structure Duo (s : St) (ta oa ia tb ob ib : Nat) (sz : Int) (W : Nat) (A B : Tn) : Prop where
  a : TnAt s ta oa ia sz W A
  b : TnAt s tb ob ib sz W B
  wf : Wf s
  apart : ∀ j, Ft s ta oa ia j → ¬ Ft s tb ob ib j
section
variable {s s' : St} {ta oa ia tb ob ib : Nat} {sz : Int} {W : Nat} {A B A' B' : Tn}
theorem Duo.symm (h : Duo s ta oa ia tb ob ib sz W A B) : Duo s tb ob ib ta oa ia sz W B A := ⟨h.b, h.a, h.wf, fun j hj hk => h.apart j hk hj⟩
/-- A new object beside them. -/
theorem Duo.new (h : Duo s ta oa ia tb ob ib sz W A B) (q : Ab.Obj) : Duo (s.new q) ta oa ia tb ob ib sz W A B := by
  have ga : ∀ j, Ft s ta oa ia j → (s.new q).get j = s.get j := fun j hj => get_new_ne _ _ (by have := h.a.ft_lt hj; omega)
  have gb : ∀ j, Ft s tb ob ib j → (s.new q).get j = s.get j := fun j hj => get_new_ne _ _ (by have := h.b.ft_lt hj; omega)
  obtain ⟨a1, a2⟩ := TurnAt.keep h.a (s' := s.new q) (by simp [St.new]) ga
  obtain ⟨b1, b2⟩ := TurnAt.keep h.b (s' := s.new q) (by simp [St.new]) gb
  refine ⟨a1, b1, fun j hj => ?_, fun j hj hk => h.apart j (a2 j hj) (b2 j hk)⟩
  have : s.next + 1 ≤ j := hj
  rw [get_new_ne _ _ (by omega)]
  exact h.wf j (by omega)
/-- A store into another object of cells. -/
theorem Duo.upd (h : Duo s ta oa ia tb ob ib sz W A B) {c : Nat} {p : Ab.Obj} (hc : s.get c = some p) (ha : ¬ Ft s ta oa ia c) (hb : ¬ Ft s tb ob ib c) (q : Ab.Obj) : Duo (s.upd c q) ta oa ia tb ob ib sz W A B := by
  have ga : ∀ j, Ft s ta oa ia j → (s.upd c q).get j = s.get j := fun j hj => get_upd_ne _ _ (fun e => ha (e ▸ hj))
  have gb : ∀ j, Ft s tb ob ib j → (s.upd c q).get j = s.get j := fun j hj => get_upd_ne _ _ (fun e => hb (e ▸ hj))
  obtain ⟨a1, a2⟩ := TurnAt.keep h.a (s' := s.upd c q) (Nat.le_refl _) ga
  obtain ⟨b1, b2⟩ := TurnAt.keep h.b (s' := s.upd c q) (Nat.le_refl _) gb
  refine ⟨a1, b1, fun j hj => ?_, fun j hj hk => h.apart j (a2 j hj) (b2 j hk)⟩
  have hj' : s.next ≤ j := hj
  rw [get_upd_ne _ _ (fun e => by rw [← e, h.wf j hj'] at hc; cases hc)]
  exact h.wf j hj'
/-- One side does something. -/
theorem Duo.step (h : Duo s ta oa ia tb ob ib sz W A B) {k f : Nat} {args : List AV} {v : AV} (he : evO k f args s = some (v, s')) (hg : ∀ C : Nat → Prop, C ta → inL C args) (hA : TnAt s' ta oa ia sz W A') :
    Duo s' ta oa ia tb ob ib sz W A' B ∧ s.next ≤ s'.next ∧ ∀ j, j < s.next → ¬ Ft s ta oa ia j → s'.get j = s.get j := by
  have hf := (evO_reach _ s k f args s v s' he (hg _ (.inr (.inl rfl))) (TurnAt.fp h.a h.wf)).2
  have same : ∀ j, j < s.next → ¬ Ft s ta oa ia j → s'.get j = s.get j := fun j hj hn => hf.same j (by rintro (h1 | h1); omega; exact hn h1)
  obtain ⟨b1, b2⟩ := TurnAt.keep h.b hf.le (fun j hj => same j (h.b.ft_lt hj) (fun hk => h.apart j hk hj))
  refine ⟨⟨hA, b1, hf.wf, fun j hj hk => ?_⟩, hf.le, same⟩
  have hk' := b2 j hk
  have hlt := h.b.ft_lt hk'
  have hCj : s.next ≤ j ∨ Ft s ta oa ia j := by
    rcases hj with rfl | rfl | rfl | ⟨W', cs', n, u, z', f', st', hj⟩
    · exact .inr (.inl rfl)
    · exact .inr (.inr (.inl rfl))
    · exact .inr (.inr (.inr (.inl rfl)))
    · exact (hf.cells oa 0 _ (.inr (.inr (.inl rfl))) hj).2.1.2
  rcases hCj with h1 | h1
  · omega
  · exact h.apart j h1 hk'
end
/-! What one side does, on the plain model. -/
section
variable {s : St} {t o i : Nat} {sz : Int} {W : Nat} {T : Tn}
theorem Tn.ok_of (h : T.ok = true) : (T.role = 1 ∨ T.role = 2) ∧ T.L.length ≤ 8 ∧ T.st ≤ T.L.length ∧ T.st ≤ 7 := by
  simp only [Tn.ok, Bool.and_eq_true, Bool.or_eq_true, decide_eq_true_eq] at h
  exact ⟨h.1.1.1, h.1.1.2, h.1.2, h.2⟩
/-- Frames as a list that never turns. -/
def FrV (v : AV) (ps : List Fm) : Prop := (v = .nils ∧ ps = []) ∨ ∃ cs, v = .sl cs ps.length none ∧ ∀ j (h : j < ps.length), ∃ rest, cs.drop (j * 9) = plC 0 0 ps[j].cmd ps[j].kind ps[j].sort ps[j].nr ps[j].ns ps[j].pf ps[j].body ++ rest
theorem says_none (h : T.mine = true) (h0 : T.m W = 0) : T.says W = [⟨T.role == 1, 2, if T.od = true then 2 else 0, T.nx, 0, true, []⟩] := by
  unfold Tn.says; rw [if_pos h, if_pos h0]
theorem says_some (h : T.mine = true) (h0 : ¬ T.m W = 0) : T.says W = (List.range (T.m W)).map fun j => ⟨T.role == 1, 1, 0, T.nx, (T.f + (j : Nat)) % 8, decide (j + 1 = T.m W), T.L.getD j []⟩ := by
  unfold Tn.says; rw [if_pos h, if_neg h0]
theorem says_len (h : T.mine = true) : (T.says W).length = max 1 (T.m W) := by
  by_cases h0 : T.m W = 0
  · rw [says_none h h0, h0]; rfl
  · rw [says_some h h0, List.length_map, List.length_range]; omega
theorem go_tn (h : TnAt s t o i sz W T) (hk : T.ok = true) (hW : W ≤ 7) : ∃ v s', evO 999 42 [.ptr t 0] s = some (v, s') ∧ TnAt s' t o i sz W (T.went W) ∧ FrV v (T.says W) := by
  obtain ⟨k1, k2, k3, k4⟩ := T.ok_of hk
  by_cases hm : T.mine = true
  · have h' := h
    unfold TnAt at h'
    rw [hm] at h'
    obtain ⟨s', p1, p2, _⟩ := go_ev 969 W T.st h' k1 k2 hW (by omega)
    refine ⟨_, s', p1, ?_, .inr ⟨goC (T.role == 1) T.nx T.f T.L T.od (min W T.L.length), ?_, fun j hj => ?_⟩⟩
    · unfold TnAt Tn.went
      rw [if_pos hm]
      exact p2
    · rw [says_len hm]; rfl
    · rw [says_len hm] at hj
      obtain ⟨rest, hr⟩ := go_at (T.role == 1) T.nx T.f T.L T.od (T.m W) j hj
      refine ⟨rest, ?_⟩
      rw [show min W T.L.length = T.m W from rfl, hr]
      by_cases h0 : T.m W = 0
      · have hj0 : j = 0 := by omega
        subst hj0
        rw [if_pos h0]
        simp only [says_none hm h0, List.getElem_cons_zero]
      · rw [if_neg h0]
        simp only [says_some hm h0, List.getElem_map, List.getElem_range]
  · have hm' : T.mine = false := by cases hh : T.mine <;> simp_all
    have h' := h
    unfold TnAt at h'
    rw [hm'] at h'
    refine ⟨_, s, go_no 997 h', ?_, .inl ⟨rfl, ?_⟩⟩
    · unfold Tn.went; rw [if_neg hm]; exact h
    · unfold Tn.says; rw [if_neg hm]
theorem take_tn {p : Fm} (h : TnAt s t o i sz W T) (hr : T.role = 1 ∨ T.role = 2) (hp : T.can p = true) : ∃ s', evO 999 49 [.ptr t 0, .agg (plC 0 0 p.cmd p.kind p.sort p.nr p.ns p.pf p.body)] s = some (if T.tells p = true then .tup [.str p.body, .bool true] else .tup [.str [], .bool false], s') ∧ TnAt s' t o i sz W (T.took p) := by
  simp only [Tn.can, Bool.and_eq_true, Bool.or_eq_true, decide_eq_true_eq, beq_iff_eq] at hp
  obtain ⟨⟨⟨⟨⟨⟨⟨c1, c2⟩, c3⟩, c4⟩, c5⟩, c6⟩, c7⟩, c8⟩ := hp
  obtain ⟨s', p1, p2, _⟩ := take_evT 994 T.st h hr 0 0 p.cmd c1 p.kind p.sort p.nr p.ns p.pf p.body c2 c3 c4 c5 c6 c7 c8
  refine ⟨s', ?_, ?_⟩
  · rw [p1]
    congr 2
    simp only [Tn.tells, Bool.and_eq_true, decide_eq_true_eq]
  · unfold TnAt
    have e : ∀ {α : Type} (x y : α), (if T.acc p.nr = true then x else y) = if accepts p.nr T.f T.st then x else y := fun x y => by
      by_cases hh : accepts p.nr T.f T.st
      · rw [if_pos hh, if_pos (show T.acc p.nr = true from decide_eq_true hh)]
      · rw [if_neg hh, if_neg (fun h2 : T.acc p.nr = true => hh (of_decide_eq_true h2))]
    simp only [Tn.took, e]
    exact p2
end
theorem FrV.at_ {v : AV} {ps : List Fm} (h : FrV v ps) (j : Nat) (hj : j < ps.length) : ∃ r, ixaV 9 v (.int .i64 (j : Int)) = some (.rp r) ∧ Ab.cut r 0 (some 9) = some (.agg (plC 0 0 ps[j].cmd ps[j].kind ps[j].sort ps[j].nr ps[j].ns ps[j].pf ps[j].body)) := by
  rcases h with ⟨_, rfl⟩ | ⟨cs, rfl, h⟩
  · simp at hj
  · obtain ⟨rest, hr⟩ := h j hj
    refine ⟨cs.drop (j * 9), ?_, by rw [hr]; exact cut_pl _ _ _ _ _ _ _ _ _ _⟩
    simp only [ixaV, idx]
    rw [if_pos ⟨by omega, by omega⟩]
    simp
theorem FrV.len {v : AV} {ps : List Fm} (h : FrV v ps) : lenV v = some (.int .i64 (ps.length : Nat)) := by
  rcases h with ⟨rfl, rfl⟩ | ⟨cs, rfl, _⟩ <;> rfl
theorem FrV.freeze {v : AV} {ps : List Fm} (h : FrV v ps) (k : Nat) (s : St) : Ab.freeze k s v = some (v, s) := by
  rcases h with ⟨rfl, rfl⟩ | ⟨cs, rfl, _⟩ <;> rfl
theorem says_le (T : Tn) (W : Nat) (hW : W ≤ 7) : (T.says W).length ≤ 8 := by
  by_cases h : T.mine = true
  · rw [says_len h]; unfold Tn.m; omega
  · unfold Tn.says; rw [if_neg h]; simp
theorem went_role (T : Tn) (W : Nat) : (T.went W).role = T.role := by
  unfold Tn.went; split <;> rfl
end Go.Proofs.YtochnineebgbgaaDoor
