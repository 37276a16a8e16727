/- turn.Turn: Go, a round. No conditions. -/
import Derived.Test.YtochnineebgbgaaDoorTurn3
import Derived.Test.YtochnineebgbgaaDoorOutF
set_option linter.unusedSimpArgs false
set_option linter.unusedVariables false
set_option maxRecDepth 100000
set_option maxHeartbeats 4000000
namespace Go.Proofs.YtochnineebgbgaaDoor
open Go Go.Ab
/-- A list of frames under way. -/
def HL (z0 : Nat) (S : St) (l : AV) (i : Nat) (pre : List AV) : Prop :=
  (l = .nils ∧ i = 0 ∧ pre = []) ∨ ∃ b, l = .hs 9 b 0 i ∧ z0 ≤ b ∧ b < S.next ∧ S.get b = some (.cells 9 pre) ∧ pre.length = i * 9 ∧ 0 < i
/-- What holds of a turn, and of everything below. -/
def Keep (z0 : Nat) (S0 S : St) (t o i : Nat) : Prop := z0 ≤ S.next ∧ ∀ j z cs, j < z0 → j ≠ t → j ≠ o → j ≠ i → S0.get j = some (.cells z cs) → S.get j = some (.cells z cs)
theorem app_fr {S : St} {z0 t o i : Nat} {role size : Int} {mine : Bool} {W : Int} {L : List (List UInt8)} {f st nx : Int} {od : Bool} {l : AV} {n : Nat} {pre : List AV} (S0 : St)
    (hT : TurnAt S t o i role size mine W L f st nx od) (ht : t < z0) (ho : o < z0) (hi : i < z0) (hK : Keep z0 S0 S t o i) (hl : HL z0 S l n pre) (hn : n ≤ 8) (fr : List AV) (hf : fr.length = 9) :
    ∃ l' S', appV true 9 80 (S.new (.cells 9 fr)) l (.hs 9 S.next 0 1) = some (l', S') ∧ HL z0 S' l' (n + 1) (pre ++ fr) ∧ TurnAt S' t o i role size mine W L f st nx od ∧ Keep z0 S0 S' t o i := by
  obtain ⟨k1, k2⟩ := hK
  have hz : S.next < (S.new (.cells 9 fr)).next := by simp [St.new]
  have hK1 : Keep z0 S0 (S.new (.cells 9 fr)) t o i := ⟨by omega, fun j z cs hj a b c hg => by rw [get_new_ne _ _ (by omega)]; exact k2 j z cs hj a b c hg⟩
  have hnw : newsOf 9 (S.new (.cells 9 fr)) (.hs 9 S.next 0 1) = some (fr, 1) := by
    simp only [newsOf, get_new_eq]
    rw [if_pos ⟨trivial, by omega⟩, List.drop_zero, List.take_of_length_le (by omega)]
  rcases hl with ⟨rfl, rfl, rfl⟩ | ⟨b, rfl, hb0, hb, hg, hlen, hpos⟩
  · refine ⟨.hs 9 (S.new (.cells 9 fr)).next 0 1, (S.new (.cells 9 fr)).new (.cells 9 fr), ?_, .inr ⟨_, rfl, by omega, by simp [St.new], get_new_eq _ _, by simpa using hf, by omega⟩, (hT.new _).new _, ⟨by simp only [St.new] at hK1 ⊢; have := hK1.1; simp only [St.new] at this; omega, fun j z cs hj a b c hg => by rw [get_new_ne _ _ (by omega)]; exact hK1.2 j z cs hj a b c hg⟩⟩
    simp only [appV, hnw]
    rfl
  · have hg1 : (S.new (.cells 9 fr)).get b = some (.cells 9 pre) := by rw [get_new_ne _ _ (by omega)]; exact hg
    have nu : ((S.new (.cells 9 fr)).upd b .dead).next = (S.new (.cells 9 fr)).next := rfl
    refine ⟨.hs 9 (S.new (.cells 9 fr)).next 0 (n + 1), ((S.new (.cells 9 fr)).upd b .dead).new (.cells 9 (pre ++ fr)), ?_, .inr ⟨_, rfl, by omega, by simp [St.new, St.upd], ?_, by simp [hf, hlen]; omega, by omega⟩, ((hT.new _).updC (by omega) (by omega) (by omega) hg1 _).new _, ⟨by simp [St.new, St.upd]; omega, fun j z cs hj a c d hg' => ?_⟩⟩
    · have hfit : fits (n + 1) 80 = true := by simp [fits]; omega
      simp only [appV, hnw, notSl, Bool.and_self, if_true, appH, hg1]
      rw [if_pos ⟨trivial, trivial, hlen, hfit⟩]
    · have := get_new_eq ((S.new (.cells 9 fr)).upd b .dead) (.cells 9 (pre ++ fr))
      rwa [nu] at this
    · rw [get_new_ne _ _ (by rw [nu]; omega), get_upd_ne _ _ (by omega)]
      exact hK1.2 j z cs hj a c d hg'
end Go.Proofs.YtochnineebgbgaaDoor
/- turn.Turn: Go, its loop. No conditions. -/
set_option linter.unusedSimpArgs false
set_option linter.unusedVariables false
set_option maxRecDepth 100000
set_option maxHeartbeats 4000000
namespace Go.Proofs.YtochnineebgbgaaDoor
open Go Go.Ab
def preG (cmd : Bool) (nr f : Int) (L : List (List UInt8)) (i : Nat) : List AV := (List.range i).flatMap fun j => plC 0 0 cmd 1 0 nr ((f + (j : Nat)) % 8) false (L.getD j [])
theorem preG_succ (cmd : Bool) (nr f : Int) (L : List (List UInt8)) (i : Nat) : preG cmd nr f L (i + 1) = preG cmd nr f L i ++ plC 0 0 cmd 1 0 nr ((f + (i : Nat)) % 8) false (L.getD i []) := by
  simp [preG, List.range_succ]
def E42 (t : Nat) (cmd : Bool) (nr : Int) (nsv bsv l : AV) (m : Nat) (i : Int) : Env := [.ptr t 0, .undef, .undef, .bool cmd, .int .i64 nr, nsv, bsv, l, .undef, .undef, .undef, .undef, .undef, .undef, .undef, .undef, .undef, .undef, .undef, .undef, .undef, .undef, .undef, .undef, .undef, .undef, .undef, .undef, .undef, .undef, .undef, .undef, .int .i64 (m : Nat), .int .i64 i, .undef, .undef, .undef, .undef, .undef, .undef, .undef, .undef, .undef, .undef, .undef, .undef, .undef, .undef, .undef, .undef, .undef, .undef, .undef, .undef, .undef, .undef, .undef, .undef, .undef, .undef, .undef, .undef, .undef, .undef, .undef, .undef, .undef, .undef, .undef, .undef, .undef, .undef, .undef, .undef, .undef, .undef]
def X42 (t : Nat) (cmd : Bool) (nr : Int) (nsv bsv l : AV) (m : Nat) : Env := [.ptr t 0, .undef, .undef, .bool cmd, .int .i64 nr, nsv, bsv, l, .undef, .undef, .undef, .undef, .undef, .undef, .undef, .undef, .undef, .undef, .undef, .undef, .undef, .undef, .undef, .undef, .undef, .undef, .undef, .undef, .undef, .undef, .undef, .undef, .int .i64 (m : Nat), .int .i64 (m : Nat), .bool false, .undef, .undef, .undef, .undef, .undef, .undef, .undef, .undef, .undef, .undef, .undef, .undef, .undef, .undef, .undef, .undef, .undef, .undef, .undef, .undef, .undef, .undef, .undef, .undef, .undef, .undef, .undef, .undef, .undef, .undef, .undef, .undef, .undef, .undef, .undef, .undef, .undef, .undef, .undef, .undef, .undef]
theorem ix_ns {nsv : AV} {f : Int} {m i : Nat} (h : ListV nsv (ints f m) m) (hi : i < m) : ∃ r, ixaV 1 nsv (.int .i64 (i : Int)) = some (.rp r) ∧ Ab.cut r 0 none = some (.int .i64 ((f + (i : Nat)) % 8)) := by
  rcases h with ⟨_, h, _⟩ | ⟨tk, rfl⟩
  · omega
  · refine ⟨(ints f m).drop i, ?_, ?_⟩
    · simp only [ixaV, idx]
      rw [if_pos ⟨by omega, by omega⟩]
      simp
    · rw [Ab.cut, List.getElem?_drop, Nat.add_zero]
      simp only [ints, List.getElem?_map]
      rw [List.getElem?_range (by omega)]
      rfl
theorem ix_bs {bsv : AV} {L : List (List UInt8)} {m i : Nat} (h : ListV bsv ((L.take m).map AV.str) m) (hi : i < m) (hm : m ≤ L.length) : ∃ r, ixaV 1 bsv (.int .i64 (i : Int)) = some (.rp r) ∧ Ab.cut r 0 none = some (.str (L.getD i [])) := by
  rcases h with ⟨_, h, _⟩ | ⟨tk, rfl⟩
  · omega
  · refine ⟨((L.take m).map AV.str).drop i, ?_, ?_⟩
    · simp only [ixaV, idx]
      rw [if_pos ⟨by omega, by omega⟩]
      simp
    · rw [Ab.cut, List.getElem?_drop, Nat.add_zero, List.getElem?_map, List.getElem?_take, if_pos hi, List.getD_eq_getElem?_getD, List.getElem?_eq_getElem (by omega)]
      rfl
theorem round42 (k : Nat) {S : St} {z0 t o i : Nat} {role size : Int} {mine : Bool} {W : Int} {L : List (List UInt8)} {f st nx : Int} {od : Bool} {l : AV} {n : Nat} (S0 : St) (cmd : Bool) (nr : Int) (nsv bsv : AV) (m : Nat) (L0 : List (List UInt8)) (f0 : Int)
    (hT : TurnAt S t o i role size mine W L f st nx od) (ht : t < z0) (ho : o < z0) (hi : i < z0) (hK : Keep z0 S0 S t o i) (hl : HL z0 S l n (preG cmd nr f0 L0 n)) (hn : n < m) (h8 : m ≤ 8) (hm : m ≤ L0.length)
    (h1 : ListV nsv (ints f0 m) m) (h2 : ListV bsv ((L0.take m).map AV.str) m) :
    ∃ e' S' l', evC tabGl (evO (k + 1)) (k + 1) M42b0 (E42 t cmd nr nsv bsv l m (n : Nat)) S = some (.nrm, e', S') ∧ maskE M42b0l e' = E42 t cmd nr nsv bsv l' m ((n + 1 : Nat) : Int) ∧ HL z0 S' l' (n + 1) (preG cmd nr f0 L0 (n + 1)) ∧ TurnAt S' t o i role size mine W L f st nx od ∧ Keep z0 S0 S' t o i := by
  obtain ⟨l', S', a1, a2, a3, a4⟩ := app_fr S0 hT ht ho hi hK hl (by omega) (plC 0 0 cmd 1 0 nr ((f0 + (n : Nat)) % 8) false (L0.getD n [])) rfl
  obtain ⟨r1, b1, b2⟩ := ix_ns h1 hn
  obtain ⟨r2, c1, c2⟩ := ix_bs h2 hn hm
  have q : ((n : Int) < ((m : Nat) : Int)) = True := eq_true (by omega)
  have w1 : IntKind.i64.wrap ((n : Int) + 1) = ((n + 1 : Nat) : Int) := (wrapI _ (by omega) (by omega)).trans (by omega)
  rw [← preG_succ] at a2
  suffices hs : ∃ e', evC tabGl (evO (k + 1)) (k + 1) M42b0 (E42 t cmd nr nsv bsv l m (n : Nat)) S = some (.nrm, e', S') ∧ maskE M42b0l e' = E42 t cmd nr nsv bsv l' m ((n + 1 : Nat) : Int) by
    obtain ⟨e', g1, g2⟩ := hs
    exact ⟨e', S', l', g1, g2, a2, a3, a4⟩
  unfold plC at a1
  simp only [M42b0, E42, q, b1, b2, c1, c2, a1, w1, qES0, qES1, qES2, env0, List.length_cons, List.length_nil, Nat.reduceAdd, Nat.reduceSub, List.replicate, List.cons_append, List.nil_append, opd, Env.put, Env.at, List.set_cons_zero, List.set_cons_succ, List.getD_cons_zero, List.getD_cons_succ, freezeL, resVs, oneOr, Option.map_some, Option.map_none, List.map_cons, List.map_nil, if_true, if_false, Bool.not_true, Bool.not_false, Bool.false_eq_true, reduceIte, decide_true, decide_false, Int.reduceLT, Int.reduceLE, Int.reduceGT, Int.reduceGE, Int.reduceEq, Int.reduceBEq, Int.reduceBNe, load_ptr, ldV_some, cellAt_cells, List.getElem?_cons_zero, List.getElem?_cons_succ, store_ptr, stO_some, setAt_0, setAt_1, setAt_2, setAt_3, setAt_4, setAt_5, setAt_6, setAt_7, setAt_8, setAt_9, setAt_10, setAt_11, setAt_12, cells_int, cells_bool, cells_str, cells_nils, cells_nilp, cells_ptr, cells_sl, cells_u8, cells_u16, cells_agg, get_upd_is, Option.isSome_some, upd_upd, ev1_nchkV, ev1_faV, nchkV_ptr, faV_ptr, ev1_extV, extV_tup, eqptr_nil, eqptr_ptr, Nat.zero_add, Nat.add_zero, qPL0, qPL1, qPL2, qPL3, qPL4, qPL5, beq_self_eq_true, qED0, qED1, placeR]
  rw [drawR_ok]; case h => simp (config := { decide := true }) [calm, calmPair, calmTwo, List.range, List.range.loop, sameO_refl]
  simp only [w1, qES0, qES1, qES2, env0, List.length_cons, List.length_nil, Nat.reduceAdd, Nat.reduceSub, List.replicate, List.cons_append, List.nil_append, opd, Env.put, Env.at, List.set_cons_zero, List.set_cons_succ, List.getD_cons_zero, List.getD_cons_succ, freezeL, resVs, oneOr, Option.map_some, Option.map_none, List.map_cons, List.map_nil, if_true, if_false, Bool.not_true, Bool.not_false, Bool.false_eq_true, reduceIte, decide_true, decide_false, Int.reduceLT, Int.reduceLE, Int.reduceGT, Int.reduceGE, Int.reduceEq, Int.reduceBEq, Int.reduceBNe, load_ptr, ldV_some, cellAt_cells, List.getElem?_cons_zero, List.getElem?_cons_succ, store_ptr, stO_some, setAt_0, setAt_1, setAt_2, setAt_3, setAt_4, setAt_5, setAt_6, setAt_7, setAt_8, setAt_9, setAt_10, setAt_11, setAt_12, cells_int, cells_bool, cells_str, cells_nils, cells_nilp, cells_ptr, cells_sl, cells_u8, cells_u16, cells_agg, get_upd_is, Option.isSome_some, upd_upd, ev1_nchkV, ev1_faV, nchkV_ptr, faV_ptr, ev1_extV, extV_tup, eqptr_nil, eqptr_ptr, Nat.zero_add, Nat.add_zero, qPL0, qPL1, qPL2, qPL3, qPL4, qPL5, beq_self_eq_true, qED0, qED1, placeR]
  exact ⟨_, rfl, rfl⟩
theorem loop42 (k : Nat) {S0 : St} {t o i : Nat} {role size : Int} {mine : Bool} {W : Int} {L : List (List UInt8)} {f st nx : Int} {od : Bool} (cmd : Bool) (nr : Int) (nsv bsv : AV) (m : Nat) (L0 : List (List UInt8)) (f0 : Int)
    (hT : TurnAt S0 t o i role size mine W L f st nx od) (h8 : m ≤ 8) (hm : m ≤ L0.length)
    (h1 : ListV nsv (ints f0 m) m) (h2 : ListV bsv ((L0.take m).map AV.str) m) (e : Env) (he : maskE M42b0l e = E42 t cmd nr nsv bsv .nils m 0) :
    ∃ S l, iter (evC tabGl (evO (k + 10)) (k + 10) M42b0) M42b0l (k + 10) e S0 = some (.exit 0, X42 t cmd nr nsv bsv l m, S) ∧ HL S0.next S l m (preG cmd nr f0 L0 m) ∧ TurnAt S t o i role size mine W L f st nx od ∧ Keep S0.next S0 S t o i := by
  have ht : t < S0.next := hT.1
  have hi : i < S0.next := hT.2.1
  have ho : o < S0.next := hT.2.2.2.2.2.2.2.1
  refine iter_leave (evC tabGl (evO (k + 10)) (k + 10) M42b0) M42b0l (fun n e S => ∃ l, maskE M42b0l e = E42 t cmd nr nsv bsv l m (n : Nat) ∧ HL S0.next S l n (preG cmd nr f0 L0 n) ∧ TurnAt S t o i role size mine W L f st nx od ∧ Keep S0.next S0 S t o i)
    (fun out => ∃ S l, out = some (.exit 0, X42 t cmd nr nsv bsv l m, S) ∧ HL S0.next S l m (preG cmd nr f0 L0 m) ∧ TurnAt S t o i role size mine W L f st nx od ∧ Keep S0.next S0 S t o i) m ?_ ?_ m 0 _ _ (k + 10) (by omega) ⟨.nils, he, .inl ⟨rfl, rfl, rfl⟩, hT, ⟨Nat.le_refl _, fun _ _ _ _ _ _ _ h => h⟩⟩ (by omega)
  · rintro n e S hn ⟨l, g1, g2, g3, g4⟩
    rw [g1]
    obtain ⟨e', S', l', r1, r2, r3, r4, r5⟩ := round42 (k + 9) S0 cmd nr nsv bsv m L0 f0 g3 ht ho hi g4 g2 hn h8 hm h1 h2
    exact .inl ⟨e', S', r1, l', r2, r3, r4, r5⟩
  · rintro e S ⟨l, g1, g2, g3, g4⟩
    rw [g1]
    have q : (((m : Nat) : Int) < ((m : Nat) : Int)) = False := eq_false (by omega)
    have hx : evC tabGl (evO (k + 10)) (k + 10) M42b0 (E42 t cmd nr nsv bsv l m (m : Nat)) S = some (.exit 0, X42 t cmd nr nsv bsv l m, S) := by
      simp only [M42b0, E42, X42, q, qES0, qES1, qES2, env0, List.length_cons, List.length_nil, Nat.reduceAdd, Nat.reduceSub, List.replicate, List.cons_append, List.nil_append, opd, Env.put, Env.at, List.set_cons_zero, List.set_cons_succ, List.getD_cons_zero, List.getD_cons_succ, freezeL, resVs, oneOr, Option.map_some, Option.map_none, List.map_cons, List.map_nil, if_true, if_false, Bool.not_true, Bool.not_false, Bool.false_eq_true, reduceIte, decide_true, decide_false, Int.reduceLT, Int.reduceLE, Int.reduceGT, Int.reduceGE, Int.reduceEq, Int.reduceBEq, Int.reduceBNe, load_ptr, ldV_some, cellAt_cells, List.getElem?_cons_zero, List.getElem?_cons_succ, store_ptr, stO_some, setAt_0, setAt_1, setAt_2, setAt_3, setAt_4, setAt_5, setAt_6, setAt_7, setAt_8, setAt_9, setAt_10, setAt_11, setAt_12, cells_int, cells_bool, cells_str, cells_nils, cells_nilp, cells_ptr, cells_sl, cells_u8, cells_u16, cells_agg, get_upd_is, Option.isSome_some, upd_upd, ev1_nchkV, ev1_faV, nchkV_ptr, faV_ptr, ev1_extV, extV_tup, eqptr_nil, eqptr_ptr, Nat.zero_add, Nat.add_zero, qPL0, qPL1, qPL2, qPL3, qPL4, qPL5, beq_self_eq_true]
    rw [hx]
    exact ⟨⟨S, l, rfl, g2, g3, g4⟩, fun _ _ h => by cases h⟩
end Go.Proofs.YtochnineebgbgaaDoor
/- out.Out: Burst, with what it leaves as it was. No conditions. -/
set_option linter.unusedSimpArgs false
set_option linter.unusedVariables false
set_option maxRecDepth 100000
namespace Go.Proofs.YtochnineebgbgaaDoor
open Go Go.Ab
theorem round35F (k : Nat) (S : St) (b : Nat) (W : Int) (lv : AV) (L : List (List UInt8)) (f st : Int) (acc : AV) (i n : Nat) (hi : i < n) (hn : n ≤ 8) (h : Inv35 S b W lv L f st acc i) :
    ∃ e' S' acc', evC tabGl (evO (k + 1)) (k + 1) M35b0 (E35 b (n : Nat) acc (i : Nat)) S = some (.nrm, e', S') ∧ maskE M35b0l e' = E35 b (n : Nat) acc' ((i + 1 : Nat) : Int) ∧ Inv35 S' b W lv L f st acc' (i + 1) ∧ Fr S S' b := by
  obtain ⟨hb, hg, hL, hA⟩ := h
  have hlt : ((i : Int) < (n : Int)) = True := eq_true (by omega)
  have h22 := o22 k f (i : Nat)
  have w1 : IntKind.i64.wrap ((i : Int) + 1) = ((i + 1 : Nat) : Int) := (wrapI _ (by omega) (by omega)).trans (by omega)
  have hg1 : (S.new (.tick 1 0)).get b = some (.cells 0 [.int .i64 W, lv, .int .i64 f, .int .i64 st]) := by rw [get_new_ne _ _ (by omega)]; exact hg
  have hL1 : LAt (S.new (.tick 1 0)) b lv L := by
    rcases hL with h | ⟨t, v, h1, ht, hne, hlt⟩
    · exact .inl h
    · exact .inr ⟨t, v, h1, by rw [get_new_ne _ _ (by omega)]; exact ht, hne, by simp [St.new]; omega⟩
  have hz : ints f (i + 1) = ints f i ++ [.int .i64 ((f + (i : Nat)) % 8)] := by simp [ints, List.range_succ]
  have hil : (ints f i).length = i := by simp [ints]
  obtain ⟨acc', S', ha, hS', hfr⟩ : ∃ acc' S', appV false 1 8 (S.new (.tick 1 0)) acc (.sl [.int .i64 ((f + (i : Nat)) % 8)] 1 (some (S.next, 0, 1))) = some (acc', S') ∧ Inv35 S' b W lv L f st acc' (i + 1) ∧ Fr S S' b := by
    rcases hA with ⟨rfl, rfl⟩ | ⟨t, v, rfl, ht, hne, hlt, hnt⟩
    · refine ⟨.sl [.int .i64 ((f + (0 : Nat)) % 8)] 1 (some (S.next + 1, 0, 1)), (S.new (.tick 1 0)).new (.tick 1 0), rfl, ⟨by simp [St.new]; omega, ?_, ?_, .inr ⟨S.next + 1, 0, rfl, ?_, by omega, by simp [St.new], ?_⟩⟩, (Fr.new _ _ _).trans (Fr.new _ _ _)⟩
      · rw [get_new_ne _ _ (by simp only [St.new]; omega)]; exact hg1
      · rcases hL1 with h | ⟨t, v, h1, ht, hne, hlt⟩
        · exact .inl h
        · exact .inr ⟨t, v, h1, by rw [get_new_ne _ _ (by omega)]; exact ht, hne, by simp [St.new] at hlt ⊢; omega⟩
      · have := get_new_eq (S.new (.tick 1 0)) (.tick 1 0)
        simpa [St.new] using this
      · intro cs n' t v z hlv he
        rcases hL with ⟨h, _⟩ | ⟨t2, v2, h1, ht, hne, hlt⟩
        · rw [h] at hlv; cases hlv
        · rw [h1] at hlv
          simp only [AV.sl.injEq, Option.some.injEq, Prod.mk.injEq] at hlv
          omega
    · have ht1 : (S.new (.tick 1 0)).get t = some (.tick 1 v) := by rw [get_new_ne _ _ (by omega)]; exact ht
      have hf : fits (i + 1) 8 = true := by simp [fits]; omega
      refine ⟨.sl (ints f (i + 1)) (i + 1) (some (t, v + 1, 1)), (S.new (.tick 1 0)).upd t (.tick 1 (v + 1)), ?_, ⟨by simp [St.upd, St.new]; omega, ?_, ?_, .inr ⟨t, v + 1, rfl, get_upd_eq _ _ ht1, hne, by simp [St.upd, St.new]; omega, hnt⟩⟩, (Fr.new _ _ _).trans (Fr.tick _ _ ht1)⟩
      · rw [hz]
        simp only [appV, newsOf, List.length_cons, List.length_nil, Nat.zero_add, Nat.mul_one, if_true, Bool.false_and, Bool.false_eq_true, if_false, appS, ht1]
        rw [if_pos (by simp [hf, hil])]
      · rw [get_upd_ne _ _ (Ne.symm hne)]; exact hg1
      · rcases hL1 with h | ⟨t2, v2, h1, ht2, hne2, hlt2⟩
        · exact .inl h
        · exact .inr ⟨t2, v2, h1, by rw [get_upd_ne _ _ (Ne.symm (hnt _ _ _ _ _ h1))]; exact ht2, hne2, by simp [St.upd]; exact hlt2⟩
  suffices hs : ∃ e', evC tabGl (evO (k + 1)) (k + 1) M35b0 (E35 b (n : Nat) acc (i : Nat)) S = some (.nrm, e', S') ∧ maskE M35b0l e' = E35 b (n : Nat) acc' ((i + 1 : Nat) : Int) by
    obtain ⟨e', g1, g2⟩ := hs
    exact ⟨e', S', acc', g1, g2, hS', hfr⟩
  simp only [M35b0, E35, hlt, hg, h22, w1, ha, ev1_eqv, eqptr_ptr, qES0, qES1, qES2, env0, List.length_cons, List.length_nil, Nat.reduceAdd, Nat.reduceSub, List.replicate, List.cons_append, List.nil_append, opd, Env.put, Env.at, List.set_cons_zero, List.set_cons_succ, List.getD_cons_zero, List.getD_cons_succ, freezeL, resVs, oneOr, Option.map_some, Option.map_none, List.map_cons, List.map_nil, if_true, if_false, Bool.not_true, Bool.not_false, Bool.false_eq_true, reduceIte, decide_true, decide_false, Int.reduceLT, Int.reduceLE, Int.reduceGT, Int.reduceGE, Int.reduceEq, Int.reduceBEq, Int.reduceBNe, load_ptr, ldV_some, cellAt_cells, List.getElem?_cons_zero, List.getElem?_cons_succ, store_ptr, stO_some, setAt_0, setAt_1, setAt_2, setAt_3, setAt_4, setAt_5, setAt_6, setAt_7, setAt_8, setAt_9, setAt_10, setAt_11, setAt_12, cells_int, cells_bool, cells_str, cells_nils, cells_nilp, cells_ptr, cells_sl, cells_u8, cells_u16, cells_agg, get_upd_is, Option.isSome_some, upd_upd, ev1_nchkV, ev1_faV, nchkV_ptr, faV_ptr, ev1_extV, extV_tup, eqptr_nil, eqptr_ptr, Nat.zero_add, Nat.add_zero, qPL0, qPL1, qPL2, qPL3, qPL4, qPL5, beq_self_eq_true]
  exact ⟨_, rfl, rfl⟩
theorem burst_fr (k : Nat) (s : St) (b : Nat) (W st : Nat) (L : List (List UInt8)) (f : Int) (h : OutAt s b (W : Nat) L f (st : Nat)) (h8 : L.length ≤ 8) (hW : W ≤ 7) (hst : st ≤ 8) :
    ∃ s' nsv bsv, evO (k + 20) 35 [.ptr b 0] s = some (.tup [nsv, bsv], s') ∧ OutAt s' b (W : Nat) L f ((max st (min W L.length) : Nat) : Int) ∧ ListV nsv (ints f (min W L.length)) (min W L.length) ∧ ListV bsv ((L.take (min W L.length)).map AV.str) (min W L.length) ∧ Fr s s' b := by
  obtain ⟨hb, lv, hg, hL⟩ := h
  obtain ⟨n, hn⟩ : ∃ n, n = min W L.length := ⟨_, rfl⟩
  rw [← hn]
  rw [show k + 20 = (k + 19) + 1 from rfl, evO_in rfl tab35]
  have ln := hL.len
  have m1 : (if ((L.length : Nat) : Int) < ((W : Nat) : Int) then ((L.length : Nat) : Int) else ((W : Nat) : Int)) = ((n : Nat) : Int) := by split <;> omega
  have m2 : (if ((n : Nat) : Int) > ((st : Nat) : Int) then ((n : Nat) : Int) else ((st : Nat) : Int)) = ((max st n : Nat) : Int) := by split <;> omega
  have hg2 : (s.upd b (.cells 0 [.int .i64 (W : Nat), lv, .int .i64 f, .int .i64 ((max st n : Nat) : Int)])).get b = some (.cells 0 [.int .i64 (W : Nat), lv, .int .i64 f, .int .i64 ((max st n : Nat) : Int)]) := get_upd_eq _ _ hg
  have hI : Inv35 (s.upd b (.cells 0 [.int .i64 (W : Nat), lv, .int .i64 f, .int .i64 ((max st n : Nat) : Int)])) b (W : Nat) lv L f ((max st n : Nat) : Int) .nils 0 := ⟨by simp [St.upd]; exact hb, hg2, hL.upd _, .inl ⟨rfl, rfl⟩⟩
  generalize hS0 : s.upd b (.cells 0 [.int .i64 (W : Nat), lv, .int .i64 f, .int .i64 ((max st n : Nat) : Int)]) = S0 at hI hg2
  have hl : ∀ e, maskE M35b0l e = E35 b (n : Nat) .nils 0 → ∃ S' acc' e', iter (evC tabGl (evO (k + 19)) (k + 19) M35b0) M35b0l (k + 19) e S0 = some (.exit 0, e', S') ∧ (Inv35 S' b (W : Nat) lv L f ((max st n : Nat) : Int) acc' n ∧ Fr S0 S' b) ∧ e' = ([.ptr b 0, .undef, .undef, .undef, .int .i64 (n : Nat), acc', .undef, .undef, .undef, .undef, .undef, .undef, .undef, .undef, .undef, .undef, .undef, .undef, .undef, .undef, .undef, .undef, .undef, .undef, .undef, .undef, .undef, .undef, .int .i64 (n : Nat), .int .i64 (n : Nat), .bool false, .undef, .undef, .undef, .undef, .undef, .undef, .undef, .undef, .undef, .undef, .undef, .undef, .undef, .undef, .undef, .undef, .undef, .undef, .undef]) := by
    intro e he
    refine iter_leave (evC tabGl (evO (k + 19)) (k + 19) M35b0) M35b0l (fun i e S => ∃ acc, maskE M35b0l e = E35 b (n : Nat) acc (i : Nat) ∧ (Inv35 S b (W : Nat) lv L f ((max st n : Nat) : Int) acc i ∧ Fr S0 S b))
      (fun out => ∃ S' acc' e', out = some (.exit 0, e', S') ∧ (Inv35 S' b (W : Nat) lv L f ((max st n : Nat) : Int) acc' n ∧ Fr S0 S' b) ∧ e' = ([.ptr b 0, .undef, .undef, .undef, .int .i64 (n : Nat), acc', .undef, .undef, .undef, .undef, .undef, .undef, .undef, .undef, .undef, .undef, .undef, .undef, .undef, .undef, .undef, .undef, .undef, .undef, .undef, .undef, .undef, .undef, .int .i64 (n : Nat), .int .i64 (n : Nat), .bool false, .undef, .undef, .undef, .undef, .undef, .undef, .undef, .undef, .undef, .undef, .undef, .undef, .undef, .undef, .undef, .undef, .undef, .undef, .undef])) n ?_ ?_ n 0 _ _ (k + 19) (by omega) ⟨.nils, he, hI, Fr.refl _ _⟩ (by omega)
    · rintro i e S hi ⟨acc, h1, h2, hF⟩
      rw [h1]
      obtain ⟨e', S', acc', g1, g2, g3, g4⟩ := round35F (k + 18) S b (W : Nat) lv L f _ acc i n hi (by omega) h2
      exact .inl ⟨e', S', g1, acc', g2, g3, hF.trans g4⟩
    · rintro e S ⟨acc, h1, h2⟩
      rw [h1]
      have q : (((n : Nat) : Int) < ((n : Nat) : Int)) = False := eq_false (by omega)
      have hx : evC tabGl (evO (k + 19)) (k + 19) M35b0 (E35 b (n : Nat) acc (n : Nat)) S = some (.exit 0, (fun acc' : AV => ([.ptr b 0, .undef, .undef, .undef, .int .i64 (n : Nat), acc', .undef, .undef, .undef, .undef, .undef, .undef, .undef, .undef, .undef, .undef, .undef, .undef, .undef, .undef, .undef, .undef, .undef, .undef, .undef, .undef, .undef, .undef, .int .i64 (n : Nat), .int .i64 (n : Nat), .bool false, .undef, .undef, .undef, .undef, .undef, .undef, .undef, .undef, .undef, .undef, .undef, .undef, .undef, .undef, .undef, .undef, .undef, .undef, .undef])) acc, S) := by
        simp only [M35b0, E35, q, qES0, qES1, qES2, env0, List.length_cons, List.length_nil, Nat.reduceAdd, Nat.reduceSub, List.replicate, List.cons_append, List.nil_append, opd, Env.put, Env.at, List.set_cons_zero, List.set_cons_succ, List.getD_cons_zero, List.getD_cons_succ, freezeL, resVs, oneOr, Option.map_some, Option.map_none, List.map_cons, List.map_nil, if_true, if_false, Bool.not_true, Bool.not_false, Bool.false_eq_true, reduceIte, decide_true, decide_false, Int.reduceLT, Int.reduceLE, Int.reduceGT, Int.reduceGE, Int.reduceEq, Int.reduceBEq, Int.reduceBNe, load_ptr, ldV_some, cellAt_cells, List.getElem?_cons_zero, List.getElem?_cons_succ, store_ptr, stO_some, setAt_0, setAt_1, setAt_2, setAt_3, setAt_4, setAt_5, setAt_6, setAt_7, setAt_8, setAt_9, setAt_10, setAt_11, setAt_12, cells_int, cells_bool, cells_str, cells_nils, cells_nilp, cells_ptr, cells_sl, cells_u8, cells_u16, cells_agg, get_upd_is, Option.isSome_some, upd_upd, ev1_nchkV, ev1_faV, nchkV_ptr, faV_ptr, ev1_extV, extV_tup, eqptr_nil, eqptr_ptr, Nat.zero_add, Nat.add_zero, qPL0, qPL1, qPL2, qPL3, qPL4, qPL5, beq_self_eq_true]
      rw [hx]
      exact ⟨⟨S, acc, _, rfl, h2, rfl⟩, fun _ _ h => by cases h⟩
  obtain ⟨S', acc', e', g1, ⟨⟨i1, i2, i3, i4⟩, hF⟩, g3⟩ := hl [.ptr b 0, .undef, .nils, .nils, .int .i64 (n : Nat), .nils, .undef, .ptr b 0, .bool false, .ptr b 0, .ptr b 0, .ptr b 0, .int .i64 (W : Nat), .ptr b 0, .ptr b 0, .ptr b 1, lv, .int .i64 (L.length : Nat), .int .i64 (n : Nat), .ptr b 0, .ptr b 0, .ptr b 0, .ptr b 3, .int .i64 (st : Nat), .int .i64 (n : Nat), .int .i64 ((max st n : Nat) : Int), .ptr b 0, .ptr b 3, .int .i64 (n : Nat), .int .i64 0, .undef, .undef, .undef, .undef, .undef, .undef, .undef, .undef, .undef, .undef, .undef, .undef, .undef, .undef, .undef, .undef, .undef, .undef, .undef, .undef] rfl
  rw [g3] at g1
  obtain ⟨lv', t1, t2, t3⟩ := i3.take n (by omega) (by omega)
  obtain ⟨bs, t4, t5⟩ := t2 (k + 18) S'
  have fa : ∀ S, Ab.freeze 1 S acc' = some (acc', S) := fun S => by
    rcases i4 with ⟨rfl, _⟩ | ⟨t, v, rfl, _⟩ <;> rfl
  have fbs : ∀ S, Ab.freeze 1 S bs = some (bs, S) := fun S => by
    rcases t5 with ⟨rfl, _⟩ | ⟨tk, rfl⟩ <;> rfl
  have fv : ∀ S, Ab.freeze 0 S lv' = Ab.freeze 0 S lv' := fun _ => rfl
  refine ⟨S', acc', bs, ?_, ⟨i1, lv, i2, i3⟩, ?_, t5, ?_⟩
  · simp only [M35, hg, ln, m1, ev1_eqv, eqptr_ptr, qES0, qES1, qES2, env0, List.length_cons, List.length_nil, Nat.reduceAdd, Nat.reduceSub, List.replicate, List.cons_append, List.nil_append, opd, Env.put, Env.at, List.set_cons_zero, List.set_cons_succ, List.getD_cons_zero, List.getD_cons_succ, freezeL, resVs, oneOr, Option.map_some, Option.map_none, List.map_cons, List.map_nil, if_true, if_false, Bool.not_true, Bool.not_false, Bool.false_eq_true, reduceIte, decide_true, decide_false, Int.reduceLT, Int.reduceLE, Int.reduceGT, Int.reduceGE, Int.reduceEq, Int.reduceBEq, Int.reduceBNe, load_ptr, ldV_some, cellAt_cells, List.getElem?_cons_zero, List.getElem?_cons_succ, store_ptr, stO_some, setAt_0, setAt_1, setAt_2, setAt_3, setAt_4, setAt_5, setAt_6, setAt_7, setAt_8, setAt_9, setAt_10, setAt_11, setAt_12, cells_int, cells_bool, cells_str, cells_nils, cells_nilp, cells_ptr, cells_sl, cells_u8, cells_u16, cells_agg, get_upd_is, Option.isSome_some, upd_upd, ev1_nchkV, ev1_faV, nchkV_ptr, faV_ptr, ev1_extV, extV_tup, eqptr_nil, eqptr_ptr, Nat.zero_add, Nat.add_zero, qPL0, qPL1, qPL2, qPL3, qPL4, qPL5, beq_self_eq_true, qED0, qED1, placeR]
    rw [drawR_ok]; case h => simp (config := { decide := true }) [calm, calmPair, calmTwo, List.range, List.range.loop, sameO_refl]
    simp only [hg, m2, hS0, g1, i2, t1, t3, t4, fa, fbs, evC_loop, ev1_slc, ev1_eqv, eqptr_ptr, qES0, qES1, qES2, env0, List.length_cons, List.length_nil, Nat.reduceAdd, Nat.reduceSub, List.replicate, List.cons_append, List.nil_append, opd, Env.put, Env.at, List.set_cons_zero, List.set_cons_succ, List.getD_cons_zero, List.getD_cons_succ, freezeL, resVs, oneOr, Option.map_some, Option.map_none, List.map_cons, List.map_nil, if_true, if_false, Bool.not_true, Bool.not_false, Bool.false_eq_true, reduceIte, decide_true, decide_false, Int.reduceLT, Int.reduceLE, Int.reduceGT, Int.reduceGE, Int.reduceEq, Int.reduceBEq, Int.reduceBNe, load_ptr, ldV_some, cellAt_cells, List.getElem?_cons_zero, List.getElem?_cons_succ, store_ptr, stO_some, setAt_0, setAt_1, setAt_2, setAt_3, setAt_4, setAt_5, setAt_6, setAt_7, setAt_8, setAt_9, setAt_10, setAt_11, setAt_12, cells_int, cells_bool, cells_str, cells_nils, cells_nilp, cells_ptr, cells_sl, cells_u8, cells_u16, cells_agg, get_upd_is, Option.isSome_some, upd_upd, ev1_nchkV, ev1_faV, nchkV_ptr, faV_ptr, ev1_extV, extV_tup, eqptr_nil, eqptr_ptr, Nat.zero_add, Nat.add_zero, qPL0, qPL1, qPL2, qPL3, qPL4, qPL5, beq_self_eq_true, qED0, qED1, placeR]
  · rcases i4 with ⟨rfl, h0⟩ | ⟨t, v, rfl, _⟩
    · exact .inl ⟨rfl, h0, by rw [h0]; rfl⟩
    · exact .inr ⟨_, rfl⟩
  · exact Fr.trans (by rw [← hS0]; exact Fr.upd _ _ _) hF
end Go.Proofs.YtochnineebgbgaaDoor
/- turn.Turn: Go. No conditions. -/
set_option linter.unusedSimpArgs false
set_option linter.unusedVariables false
set_option maxRecDepth 100000
set_option maxHeartbeats 8000000
namespace Go.Proofs.YtochnineebgbgaaDoor
open Go Go.Ab
section
variable {s : St} {t o i : Nat} {role size : Int} {mine : Bool} {W : Int} {L : List (List UInt8)} {f st nx : Int} {od : Bool}
theorem next_evT (k : Nat) (h : TurnAt s t o i role size mine W L f st nx od) : evO (k + 1) 30 [.ptr i 0] s = some (.int .i64 nx, s) := by
  obtain ⟨h1, h2, h3, h4, h5, h6, h7, h8⟩ := h
  rw [evO_in rfl tab30]
  simp only [M30, h7, ev1_eqv, eqptr_ptr, qES0, qES1, qES2, env0, List.length_cons, List.length_nil, Nat.reduceAdd, Nat.reduceSub, List.replicate, List.cons_append, List.nil_append, opd, Env.put, Env.at, List.set_cons_zero, List.set_cons_succ, List.getD_cons_zero, List.getD_cons_succ, freezeL, resVs, oneOr, Option.map_some, Option.map_none, List.map_cons, List.map_nil, if_true, if_false, Bool.not_true, Bool.not_false, Bool.false_eq_true, reduceIte, decide_true, decide_false, Int.reduceLT, Int.reduceLE, Int.reduceGT, Int.reduceGE, Int.reduceEq, Int.reduceBEq, Int.reduceBNe, load_ptr, ldV_some, cellAt_cells, List.getElem?_cons_zero, List.getElem?_cons_succ, store_ptr, stO_some, setAt_0, setAt_1, setAt_2, setAt_3, setAt_4, setAt_5, setAt_6, setAt_7, setAt_8, setAt_9, setAt_10, setAt_11, setAt_12, cells_int, cells_bool, cells_str, cells_nils, cells_nilp, cells_ptr, cells_sl, cells_u8, cells_u16, cells_agg, get_upd_is, Option.isSome_some, upd_upd, ev1_nchkV, ev1_faV, nchkV_ptr, faV_ptr, ev1_extV, extV_tup, eqptr_nil, eqptr_ptr, Nat.zero_add, Nat.add_zero, qPL0, qPL1, qPL2, qPL3, qPL4, qPL5, beq_self_eq_true]
theorem odd_evT (k : Nat) (h : TurnAt s t o i role size mine W L f st nx od) : evO (k + 1) 31 [.ptr i 0] s = some (.bool od, s) := by
  obtain ⟨h1, h2, h3, h4, h5, h6, h7, h8⟩ := h
  rw [evO_in rfl tab31]
  simp only [M31, h7, ev1_eqv, eqptr_ptr, qES0, qES1, qES2, env0, List.length_cons, List.length_nil, Nat.reduceAdd, Nat.reduceSub, List.replicate, List.cons_append, List.nil_append, opd, Env.put, Env.at, List.set_cons_zero, List.set_cons_succ, List.getD_cons_zero, List.getD_cons_succ, freezeL, resVs, oneOr, Option.map_some, Option.map_none, List.map_cons, List.map_nil, if_true, if_false, Bool.not_true, Bool.not_false, Bool.false_eq_true, reduceIte, decide_true, decide_false, Int.reduceLT, Int.reduceLE, Int.reduceGT, Int.reduceGE, Int.reduceEq, Int.reduceBEq, Int.reduceBNe, load_ptr, ldV_some, cellAt_cells, List.getElem?_cons_zero, List.getElem?_cons_succ, store_ptr, stO_some, setAt_0, setAt_1, setAt_2, setAt_3, setAt_4, setAt_5, setAt_6, setAt_7, setAt_8, setAt_9, setAt_10, setAt_11, setAt_12, cells_int, cells_bool, cells_str, cells_nils, cells_nilp, cells_ptr, cells_sl, cells_u8, cells_u16, cells_agg, get_upd_is, Option.isSome_some, upd_upd, ev1_nchkV, ev1_faV, nchkV_ptr, faV_ptr, ev1_extV, extV_tup, eqptr_nil, eqptr_ptr, Nat.zero_add, Nat.add_zero, qPL0, qPL1, qPL2, qPL3, qPL4, qPL5, beq_self_eq_true]
/-- Who has not the turn says nothing. -/
theorem go_no (k : Nat) (h : TurnAt s t o i role size false W L f st nx od) : evO (k + 2) 42 [.ptr t 0] s = some (.nils, s) := by
  have h43 := mine_evT k h
  rw [show k + 2 = (k + 1) + 1 from rfl, evO_in rfl tab42]
  simp only [M42, h43, ev1_eqv, eqptr_ptr, qES0, qES1, qES2, env0, List.length_cons, List.length_nil, Nat.reduceAdd, Nat.reduceSub, List.replicate, List.cons_append, List.nil_append, opd, Env.put, Env.at, List.set_cons_zero, List.set_cons_succ, List.getD_cons_zero, List.getD_cons_succ, freezeL, resVs, oneOr, Option.map_some, Option.map_none, List.map_cons, List.map_nil, if_true, if_false, Bool.not_true, Bool.not_false, Bool.false_eq_true, reduceIte, decide_true, decide_false, Int.reduceLT, Int.reduceLE, Int.reduceGT, Int.reduceGE, Int.reduceEq, Int.reduceBEq, Int.reduceBNe, load_ptr, ldV_some, cellAt_cells, List.getElem?_cons_zero, List.getElem?_cons_succ, store_ptr, stO_some, setAt_0, setAt_1, setAt_2, setAt_3, setAt_4, setAt_5, setAt_6, setAt_7, setAt_8, setAt_9, setAt_10, setAt_11, setAt_12, cells_int, cells_bool, cells_str, cells_nils, cells_nilp, cells_ptr, cells_sl, cells_u8, cells_u16, cells_agg, get_upd_is, Option.isSome_some, upd_upd, ev1_nchkV, ev1_faV, nchkV_ptr, faV_ptr, ev1_extV, extV_tup, eqptr_nil, eqptr_ptr, Nat.zero_add, Nat.add_zero, qPL0, qPL1, qPL2, qPL3, qPL4, qPL5, beq_self_eq_true]
def goC (cmd : Bool) (nr f : Int) (L : List (List UInt8)) (od : Bool) : Nat → List AV
  | 0 => plC 0 0 cmd 2 (if od = true then 2 else 0) nr 0 true []
  | m + 1 => preG cmd nr f L m ++ plC 0 0 cmd 1 0 nr ((f + (m : Nat)) % 8) true (L.getD m [])
theorem preG_len (cmd : Bool) (nr f : Int) (L : List (List UInt8)) (m : Nat) : (preG cmd nr f L m).length = m * 9 := by
  induction m with
  | zero => rfl
  | succ m ih => rw [preG_succ, List.length_append, ih]; simp [plC]; omega
theorem setPF (cmd : Bool) (nr f : Int) (L : List (List UInt8)) (od : Bool) (m : Nat) : (preG cmd nr f L (m + 1)).set (m * 9 + 7) (.bool true) = goC cmd nr f L od (m + 1) := by
  rw [preG_succ, List.set_append_right _ _ (by rw [preG_len]; omega), preG_len, show m * 9 + 7 - m * 9 = 7 by omega]
  rfl
theorem go_ev (k : Nat) (W st : Nat) (h : TurnAt s t o i role size true (W : Nat) L f (st : Nat) nx od) (hr : role = 1 ∨ role = 2) (h8 : L.length ≤ 8) (hW : W ≤ 7) (hst : st ≤ 8) :
    ∃ s', evO (k + 30) 42 [.ptr t 0] s = some (.sl (goC (role == 1) nx f L od (min W L.length)) (max 1 (min W L.length)) none, s') ∧ TurnAt s' t o i role size false (W : Nat) L f ((max st (min W L.length) : Nat) : Int) nx od ∧ Fr3 s s' t o i := by
  obtain ⟨m, hm⟩ : ∃ m, m = min W L.length := ⟨_, rfl⟩
  have h43 := mine_evT (k + 28) h
  have h30 := next_evT (k + 28) h
  have hT := h
  obtain ⟨h1, h2, h3, h4, h5, h6, h7, h8'⟩ := h
  obtain ⟨S1, nsv, bsv, b1, b2, b3, b4, b5⟩ := burst_fr (k + 9) s o W st L f h8' h8 hW hst
  rw [← hm] at b2 b3 b4 ⊢
  have hT1 := hT.ofO b5 b2
  have g6 := hT1.2.2.2.2.2.1
  have ln := b3.len
  have fn : ∀ n s, Ab.freeze n s nsv = some (nsv, s) := fun n s => by rcases b3 with ⟨rfl, _⟩ | ⟨_, rfl⟩ <;> rfl
  have fb : ∀ n s, Ab.freeze n s bsv = some (bsv, s) := fun n s => by rcases b4 with ⟨rfl, _⟩ | ⟨_, rfl⟩ <;> rfl
  obtain ⟨S2, l, l1, l2, l3, l4⟩ := loop42 (k + 19) (role == 1) nx nsv bsv m L f hT1 (by omega) (by omega) b3 b4 (E42 t (role == 1) nx nsv bsv .nils m 0) rfl
  have hl : ∀ e, maskE M42b0l e = E42 t (role == 1) nx nsv bsv .nils m 0 → iter (evC tabGl (evO (k + 29)) (k + 29) M42b0) M42b0l (k + 29) e S1 = some (.exit 0, X42 t (role == 1) nx nsv bsv l m, S2) := by
    intro e he
    rw [← l1, show k + 19 + 10 = (k + 28) + 1 from rfl, show k + 29 = (k + 28) + 1 from rfl, iter_succ, iter_succ, he]
    rfl
  rw [show k + 30 = (k + 29) + 1 from rfl, evO_in rfl tab42]
  simp only [M42, h43, h30, h6, b1, ln, fn, fb, evC_loop, ev1_eqv, eqptr_ptr, qES0, qES1, qES2, env0, List.length_cons, List.length_nil, Nat.reduceAdd, Nat.reduceSub, List.replicate, List.cons_append, List.nil_append, opd, Env.put, Env.at, List.set_cons_zero, List.set_cons_succ, List.getD_cons_zero, List.getD_cons_succ, freezeL, resVs, oneOr, Option.map_some, Option.map_none, List.map_cons, List.map_nil, if_true, if_false, Bool.not_true, Bool.not_false, Bool.false_eq_true, reduceIte, decide_true, decide_false, Int.reduceLT, Int.reduceLE, Int.reduceGT, Int.reduceGE, Int.reduceEq, Int.reduceBEq, Int.reduceBNe, load_ptr, ldV_some, cellAt_cells, List.getElem?_cons_zero, List.getElem?_cons_succ, store_ptr, stO_some, setAt_0, setAt_1, setAt_2, setAt_3, setAt_4, setAt_5, setAt_6, setAt_7, setAt_8, setAt_9, setAt_10, setAt_11, setAt_12, cells_int, cells_bool, cells_str, cells_nils, cells_nilp, cells_ptr, cells_sl, cells_u8, cells_u16, cells_agg, get_upd_is, Option.isSome_some, upd_upd, ev1_nchkV, ev1_faV, nchkV_ptr, faV_ptr, ev1_extV, extV_tup, eqptr_nil, eqptr_ptr, Nat.zero_add, Nat.add_zero, qPL0, qPL1, qPL2, qPL3, qPL4, qPL5, beq_self_eq_true, qED0, qED1, placeR]
  rw [drawR_ok]; case h => simp (config := { decide := true }) [calm, calmPair, calmTwo, List.range, List.range.loop, sameO_refl]
  simp only [h43, h30, h6, b1, ln, fn, fb, evC_loop, ev1_eqv, eqptr_ptr, qES0, qES1, qES2, env0, List.length_cons, List.length_nil, Nat.reduceAdd, Nat.reduceSub, List.replicate, List.cons_append, List.nil_append, opd, Env.put, Env.at, List.set_cons_zero, List.set_cons_succ, List.getD_cons_zero, List.getD_cons_succ, freezeL, resVs, oneOr, Option.map_some, Option.map_none, List.map_cons, List.map_nil, if_true, if_false, Bool.not_true, Bool.not_false, Bool.false_eq_true, reduceIte, decide_true, decide_false, Int.reduceLT, Int.reduceLE, Int.reduceGT, Int.reduceGE, Int.reduceEq, Int.reduceBEq, Int.reduceBNe, load_ptr, ldV_some, cellAt_cells, List.getElem?_cons_zero, List.getElem?_cons_succ, store_ptr, stO_some, setAt_0, setAt_1, setAt_2, setAt_3, setAt_4, setAt_5, setAt_6, setAt_7, setAt_8, setAt_9, setAt_10, setAt_11, setAt_12, cells_int, cells_bool, cells_str, cells_nils, cells_nilp, cells_ptr, cells_sl, cells_u8, cells_u16, cells_agg, get_upd_is, Option.isSome_some, upd_upd, ev1_nchkV, ev1_faV, nchkV_ptr, faV_ptr, ev1_extV, extV_tup, eqptr_nil, eqptr_ptr, Nat.zero_add, Nat.add_zero, qPL0, qPL1, qPL2, qPL3, qPL4, qPL5, beq_self_eq_true, qED0, qED1, placeR]
  rw [hl]
  rotate_left
  · rfl
  dsimp only [X42]
  have hT3 := l3
  have g7 := l3.2.2.2.2.2.1
  have ht3 := l3.1
  rcases l2 with ⟨rfl, hm0, hp⟩ | ⟨b, rfl, hb0, hb, hg, hlen, hpos⟩
  · subst hm0
    have q1 : eqAV .slc .nils .nils = some true := rfl
    have glt : ∀ l, (S2.pl l).get t = some (.cells 0 [.int .i64 role, .int .i64 size, .ptr o 0, .ptr i 0, .bool true]) := fun l => ((pl_ext S2 l).get t ht3).trans g7
    have h31 : ∀ X, evO (k + 29) 31 [.ptr i 0] (S2.pl [X]) = some (.bool od, S2.pl [X]) := fun X => odd_evT (k + 28) (l3.new X)
    have ha : ∀ (X : Ab.Obj) (so : Int), appV true 9 80 (S2.pl [X, .cells 9 [.int .i64 0, .int .i64 0, .bool (role == 1), .int .i64 2, .int .i64 so, .int .i64 nx, .int .i64 0, .bool false, .str []]]) .nils (.hs 9 (S2.next + 1) 0 1) = some (.hs 9 (S2.next + 2) 0 1, S2.pl [X, .cells 9 [.int .i64 0, .int .i64 0, .bool (role == 1), .int .i64 2, .int .i64 so, .int .i64 nx, .int .i64 0, .bool false, .str []], .cells 9 [.int .i64 0, .int .i64 0, .bool (role == 1), .int .i64 2, .int .i64 so, .int .i64 nx, .int .i64 0, .bool false, .str []]]) := by
      intro X so
      simp only [appV, newsOf, plg1, List.length_cons, List.length_nil, Nat.zero_add, Nat.reduceAdd, Nat.reduceMul, Nat.le_refl, and_self, if_true, List.drop_zero, notSl, Bool.and_self, appH, new_pl, pl_next, List.cons_append, List.nil_append]
      rfl
    have lnH : ∀ b, lenV (.hs 9 b 0 1) = some (.int .i64 1) := fun _ => rfl
    have w1 : IntKind.i64.wrap (1 - 1) = 0 := rfl
    have ixH : ∀ b, ixaV 9 (.hs 9 b 0 1) (.int .i64 0) = some (.ptr b 0) := fun _ => rfl
    have gb : ∀ (A B : Ab.Obj) (cs : List AV) (Q : Ab.Obj), ((S2.pl [A, B, .cells 9 cs]).upd t Q).get (S2.next + 2) = some (.cells 9 cs) := fun A B cs Q => by
      rw [get_upd_ne _ _ (by omega)]; exact plg2 _ _ _ _ _
    have fz : ∀ (A B : Ab.Obj) (so : Int) (Q : Ab.Obj), Ab.freeze 9 ((S2.pl [A, B, .cells 9 [.int .i64 0, .int .i64 0, .bool (role == 1), .int .i64 2, .int .i64 so, .int .i64 nx, .int .i64 0, .bool true, .str []]]).upd t Q) (.hs 9 (S2.next + 2) 0 1) = some (.sl (plC 0 0 (role == 1) 2 so nx 0 true []) 1 none, ((S2.pl [A, B, .cells 9 (plC 0 0 (role == 1) 2 so nx 0 true [])]).upd t Q).upd (S2.next + 2) (.froz 9 (plC 0 0 (role == 1) 2 so nx 0 true []))) := by
      intro A B so Q
      simp only [Ab.freeze, gb]
      rfl
    have fin : ∀ (A B : Ab.Obj) (so : Int), TurnAt (((S2.pl [A, B, .cells 9 (plC 0 0 (role == 1) 2 so nx 0 true [])]).upd t (.cells 0 [.int .i64 role, .int .i64 size, .ptr o 0, .ptr i 0, .bool false])).upd (S2.next + 2) (.froz 9 (plC 0 0 (role == 1) 2 so nx 0 true []))) t o i role size false (W : Nat) L f ((max st 0 : Nat) : Int) nx od ∧ Fr3 s (((S2.pl [A, B, .cells 9 (plC 0 0 (role == 1) 2 so nx 0 true [])]).upd t (.cells 0 [.int .i64 role, .int .i64 size, .ptr o 0, .ptr i 0, .bool false])).upd (S2.next + 2) (.froz 9 (plC 0 0 (role == 1) 2 so nx 0 true []))) t o i := by
      intro A B so
      have hTp : TurnAt (S2.pl [A, B, .cells 9 (plC 0 0 (role == 1) 2 so nx 0 true [])]) t o i role size true (W : Nat) L f ((max st 0 : Nat) : Int) nx od := ((l3.new A).new B).new _
      have ot : o < S1.next := b2.1
      have it : i < S1.next := hT1.2.1
      have tt : t < S1.next := hT1.1
      have n1 := b5.1
      have n2 := l4.1
      refine ⟨(hTp.setT _ _).updC (by omega) (by omega) (by omega) (gb _ _ _ _) _, ?_⟩
      refine ⟨by simp only [St.upd, pl_next]; omega, fun j z cs hj h1 h2 h3 hgj => ?_⟩
      rw [get_upd_ne _ _ (by omega), get_upd_ne _ _ h1]
      exact ((pl_ext S2 _).get j (by omega)).trans (l4.2 j z cs (by omega) h1 h2 h3 (b5.2 j z cs hj h2 hgj))
    rw [show S2 = S2.pl [] from rfl]
    cases od
    · simp only [q1, glt, h31, ha, lnH, w1, ixH, fz, ev1_eqv, eqptr_ptr, qES0, qES1, qES2, env0, List.length_cons, List.length_nil, Nat.reduceAdd, Nat.reduceSub, List.replicate, List.cons_append, List.nil_append, opd, Env.put, Env.at, List.set_cons_zero, List.set_cons_succ, List.getD_cons_zero, List.getD_cons_succ, freezeL, resVs, oneOr, Option.map_some, Option.map_none, List.map_cons, List.map_nil, if_true, if_false, Bool.not_true, Bool.not_false, Bool.false_eq_true, reduceIte, decide_true, decide_false, Int.reduceLT, Int.reduceLE, Int.reduceGT, Int.reduceGE, Int.reduceEq, Int.reduceBEq, Int.reduceBNe, load_ptr, ldV_some, cellAt_cells, List.getElem?_cons_zero, List.getElem?_cons_succ, store_ptr, stO_some, setAt_0, setAt_1, setAt_2, setAt_3, setAt_4, setAt_5, setAt_6, setAt_7, setAt_8, setAt_9, setAt_10, setAt_11, setAt_12, cells_int, cells_bool, cells_str, cells_nils, cells_nilp, cells_ptr, cells_sl, cells_u8, cells_u16, cells_agg, get_upd_is, Option.isSome_some, upd_upd, ev1_nchkV, ev1_faV, nchkV_ptr, faV_ptr, ev1_extV, extV_tup, eqptr_nil, eqptr_ptr, Nat.zero_add, Nat.add_zero, qPL0, qPL1, qPL2, qPL3, qPL4, qPL5, beq_self_eq_true]
      exact ⟨_, rfl, fin _ _ _⟩
    · simp only [q1, glt, h31, ha, lnH, w1, ixH, fz, ev1_eqv, eqptr_ptr, qES0, qES1, qES2, env0, List.length_cons, List.length_nil, Nat.reduceAdd, Nat.reduceSub, List.replicate, List.cons_append, List.nil_append, opd, Env.put, Env.at, List.set_cons_zero, List.set_cons_succ, List.getD_cons_zero, List.getD_cons_succ, freezeL, resVs, oneOr, Option.map_some, Option.map_none, List.map_cons, List.map_nil, if_true, if_false, Bool.not_true, Bool.not_false, Bool.false_eq_true, reduceIte, decide_true, decide_false, Int.reduceLT, Int.reduceLE, Int.reduceGT, Int.reduceGE, Int.reduceEq, Int.reduceBEq, Int.reduceBNe, load_ptr, ldV_some, cellAt_cells, List.getElem?_cons_zero, List.getElem?_cons_succ, store_ptr, stO_some, setAt_0, setAt_1, setAt_2, setAt_3, setAt_4, setAt_5, setAt_6, setAt_7, setAt_8, setAt_9, setAt_10, setAt_11, setAt_12, cells_int, cells_bool, cells_str, cells_nils, cells_nilp, cells_ptr, cells_sl, cells_u8, cells_u16, cells_agg, get_upd_is, Option.isSome_some, upd_upd, ev1_nchkV, ev1_faV, nchkV_ptr, faV_ptr, ev1_extV, extV_tup, eqptr_nil, eqptr_ptr, Nat.zero_add, Nat.add_zero, qPL0, qPL1, qPL2, qPL3, qPL4, qPL5, beq_self_eq_true]
      exact ⟨_, rfl, fin _ _ _⟩
  · obtain ⟨m, rfl⟩ : ∃ j, m = j + 1 := ⟨m - 1, by omega⟩
    have hset := setPF (role == 1) nx f L od m
    have hbt : b ≠ t := by have := hT1.1; omega
    have q1 : eqAV .slc (.hs 9 b 0 (m + 1)) .nils = some false := rfl
    have w1 : IntKind.i64.wrap (((m + 1 : Nat) : Int) - 1) = (m : Int) := (wrapI _ (by omega) (by omega)).trans (by omega)
    have lenG : (goC (role == 1) nx f L od (m + 1)).length = (m + 1) * 9 := by rw [← setPF, List.length_set, hlen]
    have lnH : lenV (.hs 9 b 0 (m + 1)) = some (.int .i64 ((m + 1 : Nat) : Int)) := rfl
    have ixH : ixaV 9 (.hs 9 b 0 (m + 1)) (.int .i64 (m : Int)) = some (.ptr b (m * 9)) := by
      simp only [ixaV, idx]
      rw [if_pos ⟨by omega, by omega⟩]
      simp
    have hst : storeV 1 S2 (.ptr b (m * 9 + 7)) (.bool true) = some (.undef, S2.upd b (.cells 9 (goC (role == 1) nx f L od (m + 1)))) := by
      simp only [storeV, hg, cellsOf, storeL, List.length_cons, List.length_nil, fillL, if_true, Nat.zero_add]
      rw [if_pos (by rw [hlen]; omega), setPF (role == 1) nx f L od m]
    have g8 : (S2.upd b (.cells 9 (goC (role == 1) nx f L od (m + 1)))).get t = some (.cells 0 [.int .i64 role, .int .i64 size, .ptr o 0, .ptr i 0, .bool true]) := by rw [get_upd_ne _ _ (Ne.symm hbt)]; exact g7
    have gb : ((S2.upd b (.cells 9 (goC (role == 1) nx f L od (m + 1)))).upd t (.cells 0 [.int .i64 role, .int .i64 size, .ptr o 0, .ptr i 0, .bool false])).get b = some (.cells 9 (goC (role == 1) nx f L od (m + 1))) := by rw [get_upd_ne _ _ hbt]; exact get_upd_eq _ _ hg
    have fz : Ab.freeze 9 ((S2.upd b (.cells 9 (goC (role == 1) nx f L od (m + 1)))).upd t (.cells 0 [.int .i64 role, .int .i64 size, .ptr o 0, .ptr i 0, .bool false])) (.hs 9 b 0 (m + 1)) = some (.sl (goC (role == 1) nx f L od (m + 1)) (m + 1) none, ((S2.upd b (.cells 9 (goC (role == 1) nx f L od (m + 1)))).upd t (.cells 0 [.int .i64 role, .int .i64 size, .ptr o 0, .ptr i 0, .bool false])).upd b (.froz 9 (goC (role == 1) nx f L od (m + 1)))) := by
      simp only [Ab.freeze, gb]
      rw [if_pos ⟨trivial, by rw [lenG]; omega⟩, List.drop_zero, List.take_of_length_le (by rw [lenG]; omega)]
    have ot : o < S1.next := b2.1
    have it : i < S1.next := hT1.2.1
    have tt : t < S1.next := hT1.1
    simp only [q1, w1, g7, g8, hg, lnH, ixH, hst, fz, ev1_eqv, eqptr_ptr, qES0, qES1, qES2, env0, List.length_cons, List.length_nil, Nat.reduceAdd, Nat.reduceSub, List.replicate, List.cons_append, List.nil_append, opd, Env.put, Env.at, List.set_cons_zero, List.set_cons_succ, List.getD_cons_zero, List.getD_cons_succ, freezeL, resVs, oneOr, Option.map_some, Option.map_none, List.map_cons, List.map_nil, if_true, if_false, Bool.not_true, Bool.not_false, Bool.false_eq_true, reduceIte, decide_true, decide_false, Int.reduceLT, Int.reduceLE, Int.reduceGT, Int.reduceGE, Int.reduceEq, Int.reduceBEq, Int.reduceBNe, load_ptr, ldV_some, cellAt_cells, List.getElem?_cons_zero, List.getElem?_cons_succ, store_ptr, stO_some, setAt_0, setAt_1, setAt_2, setAt_3, setAt_4, setAt_5, setAt_6, setAt_7, setAt_8, setAt_9, setAt_10, setAt_11, setAt_12, cells_int, cells_bool, cells_str, cells_nils, cells_nilp, cells_ptr, cells_sl, cells_u8, cells_u16, cells_agg, get_upd_is, Option.isSome_some, upd_upd, ev1_nchkV, ev1_faV, nchkV_ptr, faV_ptr, ev1_extV, extV_tup, eqptr_nil, eqptr_ptr, Nat.zero_add, Nat.add_zero, qPL0, qPL1, qPL2, qPL3, qPL4, qPL5, beq_self_eq_true]
    rw [Nat.max_eq_right (by omega : 1 ≤ m + 1)]
    refine ⟨_, rfl, ((l3.updC hbt (by omega) (by omega) hg _).setT _ _).updC hbt (by omega) (by omega) gb _, ?_⟩
    have n1 := b5.1
    refine ⟨by simp only [St.upd]; have := l4.1; omega, fun j z cs hj h1 h2 h3 hgj => ?_⟩
    rw [get_upd_ne _ _ (by omega), get_upd_ne _ _ h1, get_upd_ne _ _ (by omega)]
    exact l4.2 j z cs (by omega) h1 h2 h3 (b5.2 j z cs hj h2 hgj)
end
end Go.Proofs.YtochnineebgbgaaDoor
