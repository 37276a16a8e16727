/- tuple.Get and the document's, as the evaluator answers them. No conditions. -/
import Derived.Test.YtbeimfhodgmjhaaDoorTupPutR
set_option linter.unusedSimpArgs false
set_option linter.unusedVariables false
set_option maxRecDepth 100000
set_option maxHeartbeats 4000000
namespace Go.Ab
open Go
/-- Cells that one has made oneself, with their ticket. -/
def OwnG (size : Nat) (s : St) (x : AV) (cs : List AV) (n : Nat) : Prop := (x = .nils ∧ n = 0 ∧ cs = []) ∨ 0 < n ∧ ∃ t v, x = .sl cs n (some (t, v, size)) ∧ cs.length = n * size ∧ t < s.next ∧ s.get t = some (.tick size v)
theorem OwnG.nil (size : Nat) (s : St) : OwnG size s .nils [] 0 := .inl ⟨rfl, rfl, rfl⟩
theorem OwnG.ext {size : Nat} {s s' : St} {x : AV} {cs : List AV} {n : Nat} (h : OwnG size s x cs n) (e : Ext s s') : OwnG size s' x cs n := by
  rcases h with h | ⟨hp, t, v, h, h0, h1, h2⟩
  · exact .inl h
  · exact .inr ⟨hp, t, v, h, h0, Nat.lt_of_lt_of_le h1 e.le, (e.get t h1).trans h2⟩
theorem OwnG.app {size bytes : Nat} {s : St} {x y : AV} {cs ds : List AV} {n m : Nat} (h : OwnG size s x cs n) (g : newsOf size s y = some (ds, m)) (hd : ds.length = m * size) (hm : m ≠ 0) (hf : fits (n + m) bytes = true) :
    ∃ z s', appV false size bytes s x y = some (z, s') ∧ OwnG size s' z (cs ++ ds) (n + m) ∧ KeepC s s' := by
  rcases h with ⟨rfl, rfl, rfl⟩ | ⟨hp, t, v, rfl, h0, h1, h2⟩
  · refine ⟨_, _, by simp only [appV, g, appS, hm, Bool.false_and, if_false, Bool.false_eq_true]; rw [if_pos (by simpa using hf)], .inr ⟨by omega, s.next, 0, by simp, by simpa using hd, by simp [St.new], get_new_eq _ _⟩, KeepC.new _ _⟩
  · refine ⟨.sl (cs ++ ds) (n + m) (some (t, v + 1, size)), s.upd t (.tick size (v + 1)), ?_, .inr ⟨by omega, t, v + 1, rfl, by rw [List.length_append, h0, hd, Nat.add_mul], h1, get_upd_eq _ _ h2⟩, KeepC.tick _ h2⟩
    simp only [appV, g, appS, h2, Bool.false_and, if_false, Bool.false_eq_true]
    rw [if_pos ⟨trivial, trivial, h0, hf⟩]
theorem slcS_mid (l : List UInt8) (a b : Nat) (h : a ≤ b) (hb : b ≤ l.length) : slcS (.str l) (some (.int .i64 (a : Int))) (some (.int .i64 (b : Int))) = some (.str ((l.take b).drop a)) := by
  have h1 : bnd l.length (.int .i64 (b : Int)) = some b := by simp [bnd]; omega
  have h2 : bnd b (.int .i64 (a : Int)) = some a := by simp [bnd]; omega
  simp only [slcS, bndO, h1, h2]
theorem slcS_from (l : List UInt8) (a : Nat) (h : a ≤ l.length) : slcS (.str l) (some (.int .i64 (a : Int))) none = some (.str (l.drop a)) := by
  have h2 : bnd l.length (.int .i64 (a : Int)) = some a := by simp [bnd]; omega
  simp only [slcS, bndO, h2, List.take_length]
theorem ixsV_at (l : List UInt8) (i : Nat) (h : i < l.length) : ixsV (.str l) (.int .i64 (i : Int)) = some (.int .u8 (l[i].toNat : Int)) := by
  have h1 : idx l.length (.int .i64 (i : Int)) = some i := by simp [idx]; omega
  simp only [ixsV, h1, List.getElem?_eq_getElem h]
theorem u8_gtr (a b : Int) : binV .gtr (.int .u8 a) (.int .u8 b) = some (.bool (decide (a > b))) := (id rfl)
theorem str_ne_nil (l : List UInt8) : binV .neq (.str l) (.str []) = some (.bool (!l.isEmpty)) := by
  show some (AV.bool (!(l == []))) = _
  cases l <;> rfl
end Go.Ab
namespace Go.Proofs.YtbeimfhodgmjhaaDoor
open Go Go.Ab
/-- Parameters read one behind the other. -/
def getT : Nat → List UInt8 → Option (List Tp)
  | 0, _ => none
  | _ + 1, [] => some []
  | _ + 1, [_] => none
  | n + 1, a :: b :: r => if b.toNat > 40 ∨ r.length < b.toNat then none else (getT n (r.drop b.toNat)).map (((a.toNat : Int), r.take b.toNat) :: ·)
def getL (s : List UInt8) : Option (List Tp) := if s.length > 64 then none else getT 65 s
def tpV (l : List Tp) : AV := if l = [] then .nils else .sl (tpC l) l.length none
def getV (r : Option (List Tp)) : AV := match r with
  | some l => .tup [tpV l, .bool true]
  | none => .tup [.nils, .bool false]
theorem tpV_own {S : St} {x : AV} {l : List Tp} (h : OwnG 2 S x (tpC l) l.length) : dry1 x = tpV l ∧ ∀ s n, Ab.freeze n s x = some (x, s) := by
  rcases h with ⟨rfl, h1, _⟩ | ⟨hp, t, v, rfl, h0, h1, h2⟩
  · have : l = [] := List.length_eq_zero_iff.1 h1
    subst this
    exact ⟨rfl, fun _ _ => rfl⟩
  · unfold tpV
    rw [if_neg (fun hl => by rw [hl] at hp; simp at hp)]
    exact ⟨rfl, fun _ _ => rfl⟩
def E67 (t : List UInt8) (acc : AV) : Env := [.str t, .undef, .undef, .undef, acc, .undef, .undef, .undef, .undef, .undef, .undef, .undef, .undef, .undef, .undef, .undef, .undef, .undef, .undef, .undef, .undef, .undef, .undef, .undef, .undef, .undef, .undef, .undef, .undef, .undef, .undef, .undef, .undef, .undef, .undef, .undef, .undef, .undef, .undef, .undef, .undef, .undef, .undef, .undef, .undef, .undef]
theorem get67_round (k : Nat) (a b : UInt8) (r : List UInt8) (hl : r.length ≤ 100) (S : St) (acc : AV) (done : List Tp) (hn : done.length ≤ 100) (ha : OwnG 2 S acc (tpC done) done.length) :
    (b.toNat ≤ 40 ∧ b.toNat ≤ r.length ∧ ∃ e' S' acc', evC tabGl (evT k) k M67b0 (E67 (a :: b :: r) acc) S = some (.nrm, e', S') ∧ maskE M67b0l e' = E67 (r.drop b.toNat) acc' ∧ OwnG 2 S' acc' (tpC (done ++ [((a.toNat : Int), r.take b.toNat)])) (done ++ [((a.toNat : Int), r.take b.toNat)]).length) ∨
    ((b.toNat > 40 ∨ r.length < b.toNat) ∧ ∃ e' S', evC tabGl (evT k) k M67b0 (E67 (a :: b :: r) acc) S = some (.ret, e', S') ∧ e'.getD 2 .undef = .nils ∧ e'.getD 3 .undef = .bool false) := by
  have hb := b.toNat_lt
  have n0 := str_ne_nil (a :: b :: r)
  rw [show (!(a :: b :: r).isEmpty) = true from rfl] at n0
  have x1 : ixsV (.str (a :: b :: r)) (.int .i64 1) = some (.int .u8 (b.toNat : Int)) := ixsV_at (a :: b :: r) 1 (by simp)
  have x0 : ixsV (.str (a :: b :: r)) (.int .i64 0) = some (.int .u8 (a.toNat : Int)) := ixsV_at (a :: b :: r) 0 (by simp)
  obtain ⟨B, hB⟩ : ∃ B, b.toNat = B := ⟨_, rfl⟩
  rw [hB] at x1 hb ⊢
  have wb : IntKind.i64.wrap (B : Int) = (B : Int) := wrapI _ (by omega) (by omega)
  have wa : IntKind.i64.wrap (a.toNat : Int) = (a.toNat : Int) := wrapI _ (by omega) (by have := a.toNat_lt; omega)
  have w2 : IntKind.i64.wrap (2 + (B : Int)) = ((2 + B : Nat) : Int) := (wrapI _ (by omega) (by omega)).trans (by omega)
  have ll : (((a :: b :: r).length : Nat) : Int) = (r.length : Int) + 2 := by simp; omega
  have w3 : IntKind.i64.wrap ((r.length : Int) + 2 - 2) = (r.length : Int) := (wrapI _ (by omega) (by omega)).trans (by omega)
  have d0 : decide ((r.length : Int) + 2 < 2) = false := decide_eq_false (by omega)
  have lst : lensV' (.str (a :: b :: r)) = some (.int .i64 ((r.length : Int) + 2)) := by rw [← ll]; rfl
  generalize hs : a :: b :: r = s at n0 x1 x0 lst
  rw [show S = S.pl [] from rfl]
  by_cases g1 : B > 40
  · right
    have d1 : decide ((B : Int) > 40) = true := decide_eq_true (by omega)
    refine ⟨.inl g1, ?_⟩
    simp only [M67b0, E67, n0, x1, lst, d0, d1, u8_gtr, ev1_ixsV, ev1_lensV', qES0, qES1, qES2, env0, List.length_cons, List.length_nil, Nat.reduceAdd, Nat.reduceSub, List.replicate, List.cons_append, List.nil_append, opd, Env.put, Env.at, List.set_cons_zero, List.set_cons_succ, List.getD_cons_zero, List.getD_cons_succ, freezeL, resVs, oneOr, Option.map_some, Option.map_none, List.map_cons, List.map_nil, if_true, if_false, Bool.not_true, Bool.not_false, Bool.false_eq_true, reduceIte, decide_true, decide_false, Int.reduceLT, Int.reduceLE, Int.reduceGT, Int.reduceGE, Int.reduceEq, Int.reduceBEq, Int.reduceBNe, load_ptr, ldV_some, cellAt_cells, List.getElem?_cons_zero, List.getElem?_cons_succ, store_ptr, stO_some, setAt_0, setAt_1, setAt_2, setAt_3, setAt_4, setAt_5, setAt_6, setAt_7, setAt_8, setAt_9, setAt_10, setAt_11, setAt_12, cells_int, cells_bool, cells_str, cells_nils, cells_nilp, cells_ptr, cells_sl, cells_u8, cells_u16, cells_agg, get_upd_is, Option.isSome_some, upd_upd, ev1_nchkV, ev1_faV, nchkV_ptr, faV_ptr, ev1_extV, extV_tup, eqptr_nil, eqptr_ptr, Nat.zero_add, Nat.add_zero, qPL0, qPL1, qPL2, qPL3, qPL4, qPL5, beq_self_eq_true, qED0, qED1, placeR]
    exact ⟨_, _, rfl, rfl, rfl⟩
  · have d1 : decide ((B : Int) > 40) = false := decide_eq_false (by omega)
    by_cases g2 : r.length < B
    · right
      have d2 : decide ((r.length : Int) + 2 < ((2 + B : Nat) : Int)) = true := decide_eq_true (by omega)
      have d3 : decide ((r.length : Int) < (B : Int)) = true := decide_eq_true (by omega)
      refine ⟨.inr g2, ?_⟩
      simp only [M67b0, E67, n0, x1, lst, d0, d1, d2, d3, wb, w2, w3, u8_gtr, conv_int, ev1_ixsV, ev1_lensV', qES0, qES1, qES2, env0, List.length_cons, List.length_nil, Nat.reduceAdd, Nat.reduceSub, List.replicate, List.cons_append, List.nil_append, opd, Env.put, Env.at, List.set_cons_zero, List.set_cons_succ, List.getD_cons_zero, List.getD_cons_succ, freezeL, resVs, oneOr, Option.map_some, Option.map_none, List.map_cons, List.map_nil, if_true, if_false, Bool.not_true, Bool.not_false, Bool.false_eq_true, reduceIte, decide_true, decide_false, Int.reduceLT, Int.reduceLE, Int.reduceGT, Int.reduceGE, Int.reduceEq, Int.reduceBEq, Int.reduceBNe, load_ptr, ldV_some, cellAt_cells, List.getElem?_cons_zero, List.getElem?_cons_succ, store_ptr, stO_some, setAt_0, setAt_1, setAt_2, setAt_3, setAt_4, setAt_5, setAt_6, setAt_7, setAt_8, setAt_9, setAt_10, setAt_11, setAt_12, cells_int, cells_bool, cells_str, cells_nils, cells_nilp, cells_ptr, cells_sl, cells_u8, cells_u16, cells_agg, get_upd_is, Option.isSome_some, upd_upd, ev1_nchkV, ev1_faV, nchkV_ptr, faV_ptr, ev1_extV, extV_tup, eqptr_nil, eqptr_ptr, Nat.zero_add, Nat.add_zero, qPL0, qPL1, qPL2, qPL3, qPL4, qPL5, beq_self_eq_true, qED0, qED1, placeR]
      exact ⟨_, _, rfl, rfl, rfl⟩
    · left
      have d2 : decide ((r.length : Int) + 2 < ((2 + B : Nat) : Int)) = false := decide_eq_false (by omega)
      have d3 : decide ((r.length : Int) < (B : Int)) = false := decide_eq_false (by omega)
      refine ⟨by omega, by omega, ?_⟩
      have s1 : slcS (.str s) (some (.int .i64 2)) (some (.int .i64 ((2 + B : Nat) : Int))) = some (.str (r.take B)) := by
        have := slcS_mid s 2 (2 + B) (by omega) (by rw [← hs]; simp; omega)
        rw [← hs, show (a :: b :: r).take (2 + B) = a :: b :: r.take B by rw [Nat.add_comm]; rfl] at this
        rw [← hs]
        exact this
      have s2 : slcS (.str s) (some (.int .i64 ((2 + B : Nat) : Int))) none = some (.str (r.drop B)) := by
        have := slcS_from s (2 + B) (by rw [← hs]; simp; omega)
        rw [← hs, show (a :: b :: r).drop (2 + B) = r.drop B by rw [Nat.add_comm]; rfl] at this
        rw [← hs]
        exact this
      have f0 : ∀ (n : Int) (l : List UInt8), fill1 [.int .i64 0, .str []] 0 1 (.int .i64 n) = some [.int .i64 n, .str []] := fun n l => fill_2_0i _ _ _ _
      obtain ⟨z1, S1, a1, a2, a3⟩ := (ha.ext (pl_ext S [.tick 2 0])).app (bytes := 24) (y := .sl [.int .i64 (a.toNat : Int), .str (r.take B)] 1 (some (S.next, 0, 2))) (ds := [.int .i64 (a.toNat : Int), .str (r.take B)]) (m := 1) rfl rfl (by decide) (by simp [fits]; omega)
      have ee : tpC (done ++ [((a.toNat : Int), r.take B)]) = tpC done ++ [.int .i64 (a.toNat : Int), .str (r.take B)] := by rw [tpC_append]; rfl
      simp only [M67b0, E67, n0, x0, x1, lst, d0, d1, d2, d3, wa, wb, w2, w3, s1, s2, a1, u8_gtr, conv_int, ev1_build, ev1_ixsV, ev1_slsV, ev1_lensV', qES0, qES1, qES2, env0, List.length_cons, List.length_nil, Nat.reduceAdd, Nat.reduceSub, List.replicate, List.cons_append, List.nil_append, opd, Env.put, Env.at, List.set_cons_zero, List.set_cons_succ, List.getD_cons_zero, List.getD_cons_succ, freezeL, resVs, oneOr, Option.map_some, Option.map_none, List.map_cons, List.map_nil, if_true, if_false, Bool.not_true, Bool.not_false, Bool.false_eq_true, reduceIte, decide_true, decide_false, Int.reduceLT, Int.reduceLE, Int.reduceGT, Int.reduceGE, Int.reduceEq, Int.reduceBEq, Int.reduceBNe, load_ptr, ldV_some, cellAt_cells, List.getElem?_cons_zero, List.getElem?_cons_succ, store_ptr, stO_some, setAt_0, setAt_1, setAt_2, setAt_3, setAt_4, setAt_5, setAt_6, setAt_7, setAt_8, setAt_9, setAt_10, setAt_11, setAt_12, cells_int, cells_bool, cells_str, cells_nils, cells_nilp, cells_ptr, cells_sl, cells_u8, cells_u16, cells_agg, get_upd_is, Option.isSome_some, upd_upd, ev1_nchkV, ev1_faV, nchkV_ptr, faV_ptr, ev1_extV, extV_tup, eqptr_nil, eqptr_ptr, Nat.zero_add, Nat.add_zero, qPL0, qPL1, qPL2, qPL3, qPL4, qPL5, beq_self_eq_true, qED0, qED1, placeR]
      rw [drawR_ok]; case h => simp (config := { decide := true }) [calm, calmPair, calmTwo, List.range, List.range.loop, sameO_refl, plg0]
      simp only [x1, wb, w2, s2, conv_int, ev1_ixsV, ev1_slsV, qES0, qES1, qES2, env0, List.length_cons, List.length_nil, Nat.reduceAdd, Nat.reduceSub, List.replicate, List.cons_append, List.nil_append, opd, Env.put, Env.at, List.set_cons_zero, List.set_cons_succ, List.getD_cons_zero, List.getD_cons_succ, freezeL, resVs, oneOr, Option.map_some, Option.map_none, List.map_cons, List.map_nil, if_true, if_false, Bool.not_true, Bool.not_false, Bool.false_eq_true, reduceIte, decide_true, decide_false, Int.reduceLT, Int.reduceLE, Int.reduceGT, Int.reduceGE, Int.reduceEq, Int.reduceBEq, Int.reduceBNe, load_ptr, ldV_some, cellAt_cells, List.getElem?_cons_zero, List.getElem?_cons_succ, store_ptr, stO_some, setAt_0, setAt_1, setAt_2, setAt_3, setAt_4, setAt_5, setAt_6, setAt_7, setAt_8, setAt_9, setAt_10, setAt_11, setAt_12, cells_int, cells_bool, cells_str, cells_nils, cells_nilp, cells_ptr, cells_sl, cells_u8, cells_u16, cells_agg, get_upd_is, Option.isSome_some, upd_upd, ev1_nchkV, ev1_faV, nchkV_ptr, faV_ptr, ev1_extV, extV_tup, eqptr_nil, eqptr_ptr, Nat.zero_add, Nat.add_zero, qPL0, qPL1, qPL2, qPL3, qPL4, qPL5, beq_self_eq_true, qED0, qED1, placeR]
      refine ⟨_, _, _, rfl, rfl, ?_⟩
      rw [ee, List.length_append]
      exact a2
theorem get67_val (s : List UInt8) : valR (evT 1000 67 [.str s] St.nil) = some (getV (getL s)) := by
  rw [show (1000 : Nat) = 999 + 1 from rfl, evT_in rfl tab67]
  have lst : lensV' (.str s) = some (.int .i64 (s.length : Nat)) := rfl
  by_cases g : s.length > 64
  · have d0 : decide (((s.length : Nat) : Int) > 64) = true := decide_eq_true (by omega)
    unfold getL
    rw [if_pos g]
    simp only [M67, lst, d0, ev1_lensV', qES0, qES1, qES2, env0, List.length_cons, List.length_nil, Nat.reduceAdd, Nat.reduceSub, List.replicate, List.cons_append, List.nil_append, opd, Env.put, Env.at, List.set_cons_zero, List.set_cons_succ, List.getD_cons_zero, List.getD_cons_succ, freezeL, resVs, oneOr, Option.map_some, Option.map_none, List.map_cons, List.map_nil, if_true, if_false, Bool.not_true, Bool.not_false, Bool.false_eq_true, reduceIte, decide_true, decide_false, Int.reduceLT, Int.reduceLE, Int.reduceGT, Int.reduceGE, Int.reduceEq, Int.reduceBEq, Int.reduceBNe, load_ptr, ldV_some, cellAt_cells, List.getElem?_cons_zero, List.getElem?_cons_succ, store_ptr, stO_some, setAt_0, setAt_1, setAt_2, setAt_3, setAt_4, setAt_5, setAt_6, setAt_7, setAt_8, setAt_9, setAt_10, setAt_11, setAt_12, cells_int, cells_bool, cells_str, cells_nils, cells_nilp, cells_ptr, cells_sl, cells_u8, cells_u16, cells_agg, get_upd_is, Option.isSome_some, upd_upd, ev1_nchkV, ev1_faV, nchkV_ptr, faV_ptr, ev1_extV, extV_tup, eqptr_nil, eqptr_ptr, Nat.zero_add, Nat.add_zero, qPL0, qPL1, qPL2, qPL3, qPL4, qPL5, beq_self_eq_true]
    rfl
  · have d0 : decide (((s.length : Nat) : Int) > 64) = false := decide_eq_false (by omega)
    unfold getL
    rw [if_neg g]
    obtain ⟨R, hR⟩ : ∃ R, getT 65 s = R := ⟨_, rfl⟩
    rw [hR]
    have key : ∀ e, maskE M67b0l e = E67 s .nils → valR (outR M67.res (seqR (blockR 0 (iter (evC tabGl (evT 999) 999 M67b0) M67b0l 999 e St.nil)) (evC tabGl (evT 999) 999 M67r0))) = some (getV R) := by
      intro e he
      refine iter_leave (evC tabGl (evT 999) 999 M67b0) M67b0l (fun i e st => ∃ t acc done, maskE M67b0l e = E67 t acc ∧ OwnG 2 st acc (tpC done) done.length ∧ t.length + 2 * i ≤ 64 ∧ done.length = i ∧ R = (getT (65 - i) t).map (done ++ ·))
        (fun out => valR (outR M67.res (seqR (blockR 0 out) (evC tabGl (evT 999) 999 M67r0))) = some (getV R)) 33 ?_ ?_ 33 0 _ _ 999 (by omega) ⟨s, .nils, [], he, OwnG.nil _ _, by omega, rfl, by rw [← hR]; simp⟩ (by omega)
      · rintro i e st hi ⟨t, acc, done, h1, h2, h3, h4, h5⟩
        rw [h1]
        obtain ⟨f, hf⟩ : ∃ f, 65 - i = f + 1 := ⟨64 - i, by omega⟩
        rw [hf] at h5
        match t, h3, h5 with
        | [], h3, h5 =>
          right
          have n0 := str_ne_nil []
          rw [show (!([] : List UInt8).isEmpty) = false from rfl] at n0
          obtain ⟨q1, q2⟩ := tpV_own h2
          have hRR : R = some done := by rw [h5]; simp [getT]
          refine ⟨?_, fun e' s' hh => ?_⟩
          · rw [hRR]
            simp only [M67, M67r0, M67b0, E67, n0, q2, getV, qES0, qES1, qES2, env0, List.length_cons, List.length_nil, Nat.reduceAdd, Nat.reduceSub, List.replicate, List.cons_append, List.nil_append, opd, Env.put, Env.at, List.set_cons_zero, List.set_cons_succ, List.getD_cons_zero, List.getD_cons_succ, freezeL, resVs, oneOr, Option.map_some, Option.map_none, List.map_cons, List.map_nil, if_true, if_false, Bool.not_true, Bool.not_false, Bool.false_eq_true, reduceIte, decide_true, decide_false, Int.reduceLT, Int.reduceLE, Int.reduceGT, Int.reduceGE, Int.reduceEq, Int.reduceBEq, Int.reduceBNe, load_ptr, ldV_some, cellAt_cells, List.getElem?_cons_zero, List.getElem?_cons_succ, store_ptr, stO_some, setAt_0, setAt_1, setAt_2, setAt_3, setAt_4, setAt_5, setAt_6, setAt_7, setAt_8, setAt_9, setAt_10, setAt_11, setAt_12, cells_int, cells_bool, cells_str, cells_nils, cells_nilp, cells_ptr, cells_sl, cells_u8, cells_u16, cells_agg, get_upd_is, Option.isSome_some, upd_upd, ev1_nchkV, ev1_faV, nchkV_ptr, faV_ptr, ev1_extV, extV_tup, eqptr_nil, eqptr_ptr, Nat.zero_add, Nat.add_zero, qPL0, qPL1, qPL2, qPL3, qPL4, qPL5, beq_self_eq_true]
            simp only [dryV, List.map_cons, List.map_nil, q1, dry1_bool]
          · simp only [M67b0, E67, n0, qES0, qES1, qES2, env0, List.length_cons, List.length_nil, Nat.reduceAdd, Nat.reduceSub, List.replicate, List.cons_append, List.nil_append, opd, Env.put, Env.at, List.set_cons_zero, List.set_cons_succ, List.getD_cons_zero, List.getD_cons_succ, freezeL, resVs, oneOr, Option.map_some, Option.map_none, List.map_cons, List.map_nil, if_true, if_false, Bool.not_true, Bool.not_false, Bool.false_eq_true, reduceIte, decide_true, decide_false, Int.reduceLT, Int.reduceLE, Int.reduceGT, Int.reduceGE, Int.reduceEq, Int.reduceBEq, Int.reduceBNe, load_ptr, ldV_some, cellAt_cells, List.getElem?_cons_zero, List.getElem?_cons_succ, store_ptr, stO_some, setAt_0, setAt_1, setAt_2, setAt_3, setAt_4, setAt_5, setAt_6, setAt_7, setAt_8, setAt_9, setAt_10, setAt_11, setAt_12, cells_int, cells_bool, cells_str, cells_nils, cells_nilp, cells_ptr, cells_sl, cells_u8, cells_u16, cells_agg, get_upd_is, Option.isSome_some, upd_upd, ev1_nchkV, ev1_faV, nchkV_ptr, faV_ptr, ev1_extV, extV_tup, eqptr_nil, eqptr_ptr, Nat.zero_add, Nat.add_zero, qPL0, qPL1, qPL2, qPL3, qPL4, qPL5, beq_self_eq_true] at hh
            cases hh
        | [a], h3, h5 =>
          right
          have n0 := str_ne_nil [a]
          rw [show (!([a] : List UInt8).isEmpty) = true from rfl] at n0
          have l1 : lensV' (.str [a]) = some (.int .i64 1) := rfl
          have d1 : decide ((1 : Int) < 2) = true := rfl
          have hRR : R = none := by rw [h5]; simp [getT]
          refine ⟨?_, fun e' s' hh => ?_⟩
          · rw [hRR]
            simp only [M67, M67b0, E67, n0, l1, d1, getV, ev1_lensV', qES0, qES1, qES2, env0, List.length_cons, List.length_nil, Nat.reduceAdd, Nat.reduceSub, List.replicate, List.cons_append, List.nil_append, opd, Env.put, Env.at, List.set_cons_zero, List.set_cons_succ, List.getD_cons_zero, List.getD_cons_succ, freezeL, resVs, oneOr, Option.map_some, Option.map_none, List.map_cons, List.map_nil, if_true, if_false, Bool.not_true, Bool.not_false, Bool.false_eq_true, reduceIte, decide_true, decide_false, Int.reduceLT, Int.reduceLE, Int.reduceGT, Int.reduceGE, Int.reduceEq, Int.reduceBEq, Int.reduceBNe, load_ptr, ldV_some, cellAt_cells, List.getElem?_cons_zero, List.getElem?_cons_succ, store_ptr, stO_some, setAt_0, setAt_1, setAt_2, setAt_3, setAt_4, setAt_5, setAt_6, setAt_7, setAt_8, setAt_9, setAt_10, setAt_11, setAt_12, cells_int, cells_bool, cells_str, cells_nils, cells_nilp, cells_ptr, cells_sl, cells_u8, cells_u16, cells_agg, get_upd_is, Option.isSome_some, upd_upd, ev1_nchkV, ev1_faV, nchkV_ptr, faV_ptr, ev1_extV, extV_tup, eqptr_nil, eqptr_ptr, Nat.zero_add, Nat.add_zero, qPL0, qPL1, qPL2, qPL3, qPL4, qPL5, beq_self_eq_true]
          · simp only [M67b0, E67, n0, l1, d1, ev1_lensV', qES0, qES1, qES2, env0, List.length_cons, List.length_nil, Nat.reduceAdd, Nat.reduceSub, List.replicate, List.cons_append, List.nil_append, opd, Env.put, Env.at, List.set_cons_zero, List.set_cons_succ, List.getD_cons_zero, List.getD_cons_succ, freezeL, resVs, oneOr, Option.map_some, Option.map_none, List.map_cons, List.map_nil, if_true, if_false, Bool.not_true, Bool.not_false, Bool.false_eq_true, reduceIte, decide_true, decide_false, Int.reduceLT, Int.reduceLE, Int.reduceGT, Int.reduceGE, Int.reduceEq, Int.reduceBEq, Int.reduceBNe, load_ptr, ldV_some, cellAt_cells, List.getElem?_cons_zero, List.getElem?_cons_succ, store_ptr, stO_some, setAt_0, setAt_1, setAt_2, setAt_3, setAt_4, setAt_5, setAt_6, setAt_7, setAt_8, setAt_9, setAt_10, setAt_11, setAt_12, cells_int, cells_bool, cells_str, cells_nils, cells_nilp, cells_ptr, cells_sl, cells_u8, cells_u16, cells_agg, get_upd_is, Option.isSome_some, upd_upd, ev1_nchkV, ev1_faV, nchkV_ptr, faV_ptr, ev1_extV, extV_tup, eqptr_nil, eqptr_ptr, Nat.zero_add, Nat.add_zero, qPL0, qPL1, qPL2, qPL3, qPL4, qPL5, beq_self_eq_true] at hh
            cases hh
        | a :: b :: r, h3, h5 =>
          simp only [List.length_cons] at h3
          rcases get67_round 999 a b r (by omega) st acc done (by omega) h2 with ⟨k1, k2, e', S', acc', k3, k4, k5⟩ | ⟨k1, e', S', k3, k4, k5⟩
          · left
            refine ⟨e', S', k3, r.drop b.toNat, acc', _, k4, k5, by rw [List.length_drop]; omega, by simp [h4], ?_⟩
            rw [h5, show 65 - (i + 1) = f by omega]
            show ((if b.toNat > 40 ∨ r.length < b.toNat then none else (getT f (r.drop b.toNat)).map (((a.toNat : Int), r.take b.toNat) :: ·))).map (done ++ ·) = _
            rw [if_neg (by omega), Option.map_map]
            congr 1
            funext x
            simp
          · right
            rw [k3]
            have hRR : R = none := by
              rw [h5]
              show ((if b.toNat > 40 ∨ r.length < b.toNat then none else (getT f (r.drop b.toNat)).map (((a.toNat : Int), r.take b.toNat) :: ·))).map (done ++ ·) = _
              rw [if_pos k1]; rfl
            rw [hRR]
            refine ⟨?_, fun _ _ h => by cases h⟩
            simp only [M67, k4, k5, getV, qES0, qES1, qES2, env0, List.length_cons, List.length_nil, Nat.reduceAdd, Nat.reduceSub, List.replicate, List.cons_append, List.nil_append, opd, Env.put, Env.at, List.set_cons_zero, List.set_cons_succ, List.getD_cons_zero, List.getD_cons_succ, freezeL, resVs, oneOr, Option.map_some, Option.map_none, List.map_cons, List.map_nil, if_true, if_false, Bool.not_true, Bool.not_false, Bool.false_eq_true, reduceIte, decide_true, decide_false, Int.reduceLT, Int.reduceLE, Int.reduceGT, Int.reduceGE, Int.reduceEq, Int.reduceBEq, Int.reduceBNe, load_ptr, ldV_some, cellAt_cells, List.getElem?_cons_zero, List.getElem?_cons_succ, store_ptr, stO_some, setAt_0, setAt_1, setAt_2, setAt_3, setAt_4, setAt_5, setAt_6, setAt_7, setAt_8, setAt_9, setAt_10, setAt_11, setAt_12, cells_int, cells_bool, cells_str, cells_nils, cells_nilp, cells_ptr, cells_sl, cells_u8, cells_u16, cells_agg, get_upd_is, Option.isSome_some, upd_upd, ev1_nchkV, ev1_faV, nchkV_ptr, faV_ptr, ev1_extV, extV_tup, eqptr_nil, eqptr_ptr, Nat.zero_add, Nat.add_zero, qPL0, qPL1, qPL2, qPL3, qPL4, qPL5, beq_self_eq_true]
      · rintro e st ⟨t, acc, done, h1, h2, h3, h4, h5⟩
        omega
    simp only [M67, lst, d0, evC_loop, ev1_lensV', qES0, qES1, qES2, env0, List.length_cons, List.length_nil, Nat.reduceAdd, Nat.reduceSub, List.replicate, List.cons_append, List.nil_append, opd, Env.put, Env.at, List.set_cons_zero, List.set_cons_succ, List.getD_cons_zero, List.getD_cons_succ, freezeL, resVs, oneOr, Option.map_some, Option.map_none, List.map_cons, List.map_nil, if_true, if_false, Bool.not_true, Bool.not_false, Bool.false_eq_true, reduceIte, decide_true, decide_false, Int.reduceLT, Int.reduceLE, Int.reduceGT, Int.reduceGE, Int.reduceEq, Int.reduceBEq, Int.reduceBNe, load_ptr, ldV_some, cellAt_cells, List.getElem?_cons_zero, List.getElem?_cons_succ, store_ptr, stO_some, setAt_0, setAt_1, setAt_2, setAt_3, setAt_4, setAt_5, setAt_6, setAt_7, setAt_8, setAt_9, setAt_10, setAt_11, setAt_12, cells_int, cells_bool, cells_str, cells_nils, cells_nilp, cells_ptr, cells_sl, cells_u8, cells_u16, cells_agg, get_upd_is, Option.isSome_some, upd_upd, ev1_nchkV, ev1_faV, nchkV_ptr, faV_ptr, ev1_extV, extV_tup, eqptr_nil, eqptr_ptr, Nat.zero_add, Nat.add_zero, qPL0, qPL1, qPL2, qPL3, qPL4, qPL5, beq_self_eq_true]
    exact key _ rfl
def E40 (t : List UInt8) (acc : AV) : Env := [.str t, .undef, .undef, .undef, acc, .undef, .undef, .undef, .undef, .undef, .undef, .undef, .undef, .undef, .undef, .undef, .undef, .undef, .undef, .undef, .undef, .undef, .undef, .undef, .undef, .undef, .undef, .undef, .undef, .undef, .undef, .undef, .undef, .undef, .undef, .undef, .undef, .undef, .undef, .undef, .undef, .undef, .undef, .undef, .undef, .undef, .undef]
theorem get40_round (k : Nat) (a b : UInt8) (r : List UInt8) (hl : r.length ≤ 100) (S : St) (acc : AV) (done : List Tp) (hn : done.length ≤ 100) (ha : OwnG 2 S acc (tpC done) done.length) :
    (b.toNat ≤ 40 ∧ b.toNat ≤ r.length ∧ ∃ e' S' acc', evC tabGl (evT k) k M40b0 (E40 (a :: b :: r) acc) S = some (.nrm, e', S') ∧ maskE M40b0l e' = E40 (r.drop b.toNat) acc' ∧ OwnG 2 S' acc' (tpC (done ++ [((a.toNat : Int), r.take b.toNat)])) (done ++ [((a.toNat : Int), r.take b.toNat)]).length) ∨
    ((b.toNat > 40 ∨ r.length < b.toNat) ∧ ∃ e' S', evC tabGl (evT k) k M40b0 (E40 (a :: b :: r) acc) S = some (.ret, e', S') ∧ e'.getD 2 .undef = .nils ∧ e'.getD 3 .undef = .bool false) := by
  have hb := b.toNat_lt
  have n0 := str_ne_nil (a :: b :: r)
  rw [show (!(a :: b :: r).isEmpty) = true from rfl] at n0
  have x1 : ixsV (.str (a :: b :: r)) (.int .i64 1) = some (.int .u8 (b.toNat : Int)) := ixsV_at (a :: b :: r) 1 (by simp)
  have x0 : ixsV (.str (a :: b :: r)) (.int .i64 0) = some (.int .u8 (a.toNat : Int)) := ixsV_at (a :: b :: r) 0 (by simp)
  obtain ⟨B, hB⟩ : ∃ B, b.toNat = B := ⟨_, rfl⟩
  rw [hB] at x1 hb ⊢
  have wb : IntKind.i64.wrap (B : Int) = (B : Int) := wrapI _ (by omega) (by omega)
  have wa : IntKind.i64.wrap (a.toNat : Int) = (a.toNat : Int) := wrapI _ (by omega) (by have := a.toNat_lt; omega)
  have w2 : IntKind.i64.wrap (2 + (B : Int)) = ((2 + B : Nat) : Int) := (wrapI _ (by omega) (by omega)).trans (by omega)
  have ll : (((a :: b :: r).length : Nat) : Int) = (r.length : Int) + 2 := by simp; omega
  have w3 : IntKind.i64.wrap ((r.length : Int) + 2 - 2) = (r.length : Int) := (wrapI _ (by omega) (by omega)).trans (by omega)
  have d0 : decide ((r.length : Int) + 2 < 2) = false := decide_eq_false (by omega)
  have lst : lensV' (.str (a :: b :: r)) = some (.int .i64 ((r.length : Int) + 2)) := by rw [← ll]; rfl
  generalize hs : a :: b :: r = s at n0 x1 x0 lst
  rw [show S = S.pl [] from rfl]
  by_cases g1 : B > 40
  · right
    have d1 : decide ((B : Int) > 40) = true := decide_eq_true (by omega)
    refine ⟨.inl g1, ?_⟩
    simp only [M40b0, E40, n0, x1, lst, d0, d1, u8_gtr, ev1_ixsV, ev1_lensV', qES0, qES1, qES2, env0, List.length_cons, List.length_nil, Nat.reduceAdd, Nat.reduceSub, List.replicate, List.cons_append, List.nil_append, opd, Env.put, Env.at, List.set_cons_zero, List.set_cons_succ, List.getD_cons_zero, List.getD_cons_succ, freezeL, resVs, oneOr, Option.map_some, Option.map_none, List.map_cons, List.map_nil, if_true, if_false, Bool.not_true, Bool.not_false, Bool.false_eq_true, reduceIte, decide_true, decide_false, Int.reduceLT, Int.reduceLE, Int.reduceGT, Int.reduceGE, Int.reduceEq, Int.reduceBEq, Int.reduceBNe, load_ptr, ldV_some, cellAt_cells, List.getElem?_cons_zero, List.getElem?_cons_succ, store_ptr, stO_some, setAt_0, setAt_1, setAt_2, setAt_3, setAt_4, setAt_5, setAt_6, setAt_7, setAt_8, setAt_9, setAt_10, setAt_11, setAt_12, cells_int, cells_bool, cells_str, cells_nils, cells_nilp, cells_ptr, cells_sl, cells_u8, cells_u16, cells_agg, get_upd_is, Option.isSome_some, upd_upd, ev1_nchkV, ev1_faV, nchkV_ptr, faV_ptr, ev1_extV, extV_tup, eqptr_nil, eqptr_ptr, Nat.zero_add, Nat.add_zero, qPL0, qPL1, qPL2, qPL3, qPL4, qPL5, beq_self_eq_true, qED0, qED1, placeR]
    exact ⟨_, _, rfl, rfl, rfl⟩
  · have d1 : decide ((B : Int) > 40) = false := decide_eq_false (by omega)
    by_cases g2 : r.length < B
    · right
      have d2 : decide ((r.length : Int) + 2 < ((2 + B : Nat) : Int)) = true := decide_eq_true (by omega)
      have d3 : decide ((r.length : Int) < (B : Int)) = true := decide_eq_true (by omega)
      refine ⟨.inr g2, ?_⟩
      simp only [M40b0, E40, n0, x1, lst, d0, d1, d2, d3, wb, w2, w3, u8_gtr, conv_int, ev1_ixsV, ev1_lensV', qES0, qES1, qES2, env0, List.length_cons, List.length_nil, Nat.reduceAdd, Nat.reduceSub, List.replicate, List.cons_append, List.nil_append, opd, Env.put, Env.at, List.set_cons_zero, List.set_cons_succ, List.getD_cons_zero, List.getD_cons_succ, freezeL, resVs, oneOr, Option.map_some, Option.map_none, List.map_cons, List.map_nil, if_true, if_false, Bool.not_true, Bool.not_false, Bool.false_eq_true, reduceIte, decide_true, decide_false, Int.reduceLT, Int.reduceLE, Int.reduceGT, Int.reduceGE, Int.reduceEq, Int.reduceBEq, Int.reduceBNe, load_ptr, ldV_some, cellAt_cells, List.getElem?_cons_zero, List.getElem?_cons_succ, store_ptr, stO_some, setAt_0, setAt_1, setAt_2, setAt_3, setAt_4, setAt_5, setAt_6, setAt_7, setAt_8, setAt_9, setAt_10, setAt_11, setAt_12, cells_int, cells_bool, cells_str, cells_nils, cells_nilp, cells_ptr, cells_sl, cells_u8, cells_u16, cells_agg, get_upd_is, Option.isSome_some, upd_upd, ev1_nchkV, ev1_faV, nchkV_ptr, faV_ptr, ev1_extV, extV_tup, eqptr_nil, eqptr_ptr, Nat.zero_add, Nat.add_zero, qPL0, qPL1, qPL2, qPL3, qPL4, qPL5, beq_self_eq_true, qED0, qED1, placeR]
      exact ⟨_, _, rfl, rfl, rfl⟩
    · left
      have d2 : decide ((r.length : Int) + 2 < ((2 + B : Nat) : Int)) = false := decide_eq_false (by omega)
      have d3 : decide ((r.length : Int) < (B : Int)) = false := decide_eq_false (by omega)
      refine ⟨by omega, by omega, ?_⟩
      have s1 : slcS (.str s) (some (.int .i64 2)) (some (.int .i64 ((2 + B : Nat) : Int))) = some (.str (r.take B)) := by
        have := slcS_mid s 2 (2 + B) (by omega) (by rw [← hs]; simp; omega)
        rw [← hs, show (a :: b :: r).take (2 + B) = a :: b :: r.take B by rw [Nat.add_comm]; rfl] at this
        rw [← hs]
        exact this
      have s2 : slcS (.str s) (some (.int .i64 ((2 + B : Nat) : Int))) none = some (.str (r.drop B)) := by
        have := slcS_from s (2 + B) (by rw [← hs]; simp; omega)
        rw [← hs, show (a :: b :: r).drop (2 + B) = r.drop B by rw [Nat.add_comm]; rfl] at this
        rw [← hs]
        exact this
      have f0 : ∀ (n : Int) (l : List UInt8), fill1 [.int .i64 0, .str []] 0 1 (.int .i64 n) = some [.int .i64 n, .str []] := fun n l => fill_2_0i _ _ _ _
      obtain ⟨z1, S1, a1, a2, a3⟩ := (ha.ext (pl_ext S [.tick 2 0])).app (bytes := 24) (y := .sl [.int .i64 (a.toNat : Int), .str (r.take B)] 1 (some (S.next, 0, 2))) (ds := [.int .i64 (a.toNat : Int), .str (r.take B)]) (m := 1) rfl rfl (by decide) (by simp [fits]; omega)
      have ee : tpC (done ++ [((a.toNat : Int), r.take B)]) = tpC done ++ [.int .i64 (a.toNat : Int), .str (r.take B)] := by rw [tpC_append]; rfl
      simp only [M40b0, E40, n0, x0, x1, lst, d0, d1, d2, d3, wa, wb, w2, w3, s1, s2, a1, u8_gtr, conv_int, ev1_build, ev1_ixsV, ev1_slsV, ev1_lensV', qES0, qES1, qES2, env0, List.length_cons, List.length_nil, Nat.reduceAdd, Nat.reduceSub, List.replicate, List.cons_append, List.nil_append, opd, Env.put, Env.at, List.set_cons_zero, List.set_cons_succ, List.getD_cons_zero, List.getD_cons_succ, freezeL, resVs, oneOr, Option.map_some, Option.map_none, List.map_cons, List.map_nil, if_true, if_false, Bool.not_true, Bool.not_false, Bool.false_eq_true, reduceIte, decide_true, decide_false, Int.reduceLT, Int.reduceLE, Int.reduceGT, Int.reduceGE, Int.reduceEq, Int.reduceBEq, Int.reduceBNe, load_ptr, ldV_some, cellAt_cells, List.getElem?_cons_zero, List.getElem?_cons_succ, store_ptr, stO_some, setAt_0, setAt_1, setAt_2, setAt_3, setAt_4, setAt_5, setAt_6, setAt_7, setAt_8, setAt_9, setAt_10, setAt_11, setAt_12, cells_int, cells_bool, cells_str, cells_nils, cells_nilp, cells_ptr, cells_sl, cells_u8, cells_u16, cells_agg, get_upd_is, Option.isSome_some, upd_upd, ev1_nchkV, ev1_faV, nchkV_ptr, faV_ptr, ev1_extV, extV_tup, eqptr_nil, eqptr_ptr, Nat.zero_add, Nat.add_zero, qPL0, qPL1, qPL2, qPL3, qPL4, qPL5, beq_self_eq_true, qED0, qED1, placeR]
      rw [drawR_ok]; case h => simp (config := { decide := true }) [calm, calmPair, calmTwo, List.range, List.range.loop, sameO_refl, plg0]
      simp only [x1, wb, w2, s2, conv_int, ev1_ixsV, ev1_slsV, qES0, qES1, qES2, env0, List.length_cons, List.length_nil, Nat.reduceAdd, Nat.reduceSub, List.replicate, List.cons_append, List.nil_append, opd, Env.put, Env.at, List.set_cons_zero, List.set_cons_succ, List.getD_cons_zero, List.getD_cons_succ, freezeL, resVs, oneOr, Option.map_some, Option.map_none, List.map_cons, List.map_nil, if_true, if_false, Bool.not_true, Bool.not_false, Bool.false_eq_true, reduceIte, decide_true, decide_false, Int.reduceLT, Int.reduceLE, Int.reduceGT, Int.reduceGE, Int.reduceEq, Int.reduceBEq, Int.reduceBNe, load_ptr, ldV_some, cellAt_cells, List.getElem?_cons_zero, List.getElem?_cons_succ, store_ptr, stO_some, setAt_0, setAt_1, setAt_2, setAt_3, setAt_4, setAt_5, setAt_6, setAt_7, setAt_8, setAt_9, setAt_10, setAt_11, setAt_12, cells_int, cells_bool, cells_str, cells_nils, cells_nilp, cells_ptr, cells_sl, cells_u8, cells_u16, cells_agg, get_upd_is, Option.isSome_some, upd_upd, ev1_nchkV, ev1_faV, nchkV_ptr, faV_ptr, ev1_extV, extV_tup, eqptr_nil, eqptr_ptr, Nat.zero_add, Nat.add_zero, qPL0, qPL1, qPL2, qPL3, qPL4, qPL5, beq_self_eq_true, qED0, qED1, placeR]
      refine ⟨_, _, _, rfl, rfl, ?_⟩
      rw [ee, List.length_append]
      exact a2
theorem get40_val (s : List UInt8) : valR (evT 1000 40 [.str s] St.nil) = some (getV (getL s)) := by
  rw [show (1000 : Nat) = 999 + 1 from rfl, evT_in rfl tab40]
  have lst : lensV' (.str s) = some (.int .i64 (s.length : Nat)) := rfl
  by_cases g : s.length > 64
  · have d0 : decide (((s.length : Nat) : Int) > 64) = true := decide_eq_true (by omega)
    unfold getL
    rw [if_pos g]
    simp only [M40, lst, d0, ev1_lensV', qES0, qES1, qES2, env0, List.length_cons, List.length_nil, Nat.reduceAdd, Nat.reduceSub, List.replicate, List.cons_append, List.nil_append, opd, Env.put, Env.at, List.set_cons_zero, List.set_cons_succ, List.getD_cons_zero, List.getD_cons_succ, freezeL, resVs, oneOr, Option.map_some, Option.map_none, List.map_cons, List.map_nil, if_true, if_false, Bool.not_true, Bool.not_false, Bool.false_eq_true, reduceIte, decide_true, decide_false, Int.reduceLT, Int.reduceLE, Int.reduceGT, Int.reduceGE, Int.reduceEq, Int.reduceBEq, Int.reduceBNe, load_ptr, ldV_some, cellAt_cells, List.getElem?_cons_zero, List.getElem?_cons_succ, store_ptr, stO_some, setAt_0, setAt_1, setAt_2, setAt_3, setAt_4, setAt_5, setAt_6, setAt_7, setAt_8, setAt_9, setAt_10, setAt_11, setAt_12, cells_int, cells_bool, cells_str, cells_nils, cells_nilp, cells_ptr, cells_sl, cells_u8, cells_u16, cells_agg, get_upd_is, Option.isSome_some, upd_upd, ev1_nchkV, ev1_faV, nchkV_ptr, faV_ptr, ev1_extV, extV_tup, eqptr_nil, eqptr_ptr, Nat.zero_add, Nat.add_zero, qPL0, qPL1, qPL2, qPL3, qPL4, qPL5, beq_self_eq_true]
    rfl
  · have d0 : decide (((s.length : Nat) : Int) > 64) = false := decide_eq_false (by omega)
    unfold getL
    rw [if_neg g]
    obtain ⟨R, hR⟩ : ∃ R, getT 65 s = R := ⟨_, rfl⟩
    rw [hR]
    have key : ∀ e, maskE M40b0l e = E40 s .nils → valR (outR M40.res (seqR (blockR 0 (iter (evC tabGl (evT 999) 999 M40b0) M40b0l 999 e St.nil)) (evC tabGl (evT 999) 999 M40r0))) = some (getV R) := by
      intro e he
      refine iter_leave (evC tabGl (evT 999) 999 M40b0) M40b0l (fun i e st => ∃ t acc done, maskE M40b0l e = E40 t acc ∧ OwnG 2 st acc (tpC done) done.length ∧ t.length + 2 * i ≤ 64 ∧ done.length = i ∧ R = (getT (65 - i) t).map (done ++ ·))
        (fun out => valR (outR M40.res (seqR (blockR 0 out) (evC tabGl (evT 999) 999 M40r0))) = some (getV R)) 33 ?_ ?_ 33 0 _ _ 999 (by omega) ⟨s, .nils, [], he, OwnG.nil _ _, by omega, rfl, by rw [← hR]; simp⟩ (by omega)
      · rintro i e st hi ⟨t, acc, done, h1, h2, h3, h4, h5⟩
        rw [h1]
        obtain ⟨f, hf⟩ : ∃ f, 65 - i = f + 1 := ⟨64 - i, by omega⟩
        rw [hf] at h5
        match t, h3, h5 with
        | [], h3, h5 =>
          right
          have n0 := str_ne_nil []
          rw [show (!([] : List UInt8).isEmpty) = false from rfl] at n0
          obtain ⟨q1, q2⟩ := tpV_own h2
          have hRR : R = some done := by rw [h5]; simp [getT]
          refine ⟨?_, fun e' s' hh => ?_⟩
          · rw [hRR]
            simp only [M40, M40r0, M40b0, E40, n0, q2, getV, qES0, qES1, qES2, env0, List.length_cons, List.length_nil, Nat.reduceAdd, Nat.reduceSub, List.replicate, List.cons_append, List.nil_append, opd, Env.put, Env.at, List.set_cons_zero, List.set_cons_succ, List.getD_cons_zero, List.getD_cons_succ, freezeL, resVs, oneOr, Option.map_some, Option.map_none, List.map_cons, List.map_nil, if_true, if_false, Bool.not_true, Bool.not_false, Bool.false_eq_true, reduceIte, decide_true, decide_false, Int.reduceLT, Int.reduceLE, Int.reduceGT, Int.reduceGE, Int.reduceEq, Int.reduceBEq, Int.reduceBNe, load_ptr, ldV_some, cellAt_cells, List.getElem?_cons_zero, List.getElem?_cons_succ, store_ptr, stO_some, setAt_0, setAt_1, setAt_2, setAt_3, setAt_4, setAt_5, setAt_6, setAt_7, setAt_8, setAt_9, setAt_10, setAt_11, setAt_12, cells_int, cells_bool, cells_str, cells_nils, cells_nilp, cells_ptr, cells_sl, cells_u8, cells_u16, cells_agg, get_upd_is, Option.isSome_some, upd_upd, ev1_nchkV, ev1_faV, nchkV_ptr, faV_ptr, ev1_extV, extV_tup, eqptr_nil, eqptr_ptr, Nat.zero_add, Nat.add_zero, qPL0, qPL1, qPL2, qPL3, qPL4, qPL5, beq_self_eq_true]
            simp only [dryV, List.map_cons, List.map_nil, q1, dry1_bool]
          · simp only [M40b0, E40, n0, qES0, qES1, qES2, env0, List.length_cons, List.length_nil, Nat.reduceAdd, Nat.reduceSub, List.replicate, List.cons_append, List.nil_append, opd, Env.put, Env.at, List.set_cons_zero, List.set_cons_succ, List.getD_cons_zero, List.getD_cons_succ, freezeL, resVs, oneOr, Option.map_some, Option.map_none, List.map_cons, List.map_nil, if_true, if_false, Bool.not_true, Bool.not_false, Bool.false_eq_true, reduceIte, decide_true, decide_false, Int.reduceLT, Int.reduceLE, Int.reduceGT, Int.reduceGE, Int.reduceEq, Int.reduceBEq, Int.reduceBNe, load_ptr, ldV_some, cellAt_cells, List.getElem?_cons_zero, List.getElem?_cons_succ, store_ptr, stO_some, setAt_0, setAt_1, setAt_2, setAt_3, setAt_4, setAt_5, setAt_6, setAt_7, setAt_8, setAt_9, setAt_10, setAt_11, setAt_12, cells_int, cells_bool, cells_str, cells_nils, cells_nilp, cells_ptr, cells_sl, cells_u8, cells_u16, cells_agg, get_upd_is, Option.isSome_some, upd_upd, ev1_nchkV, ev1_faV, nchkV_ptr, faV_ptr, ev1_extV, extV_tup, eqptr_nil, eqptr_ptr, Nat.zero_add, Nat.add_zero, qPL0, qPL1, qPL2, qPL3, qPL4, qPL5, beq_self_eq_true] at hh
            cases hh
        | [a], h3, h5 =>
          right
          have n0 := str_ne_nil [a]
          rw [show (!([a] : List UInt8).isEmpty) = true from rfl] at n0
          have l1 : lensV' (.str [a]) = some (.int .i64 1) := rfl
          have d1 : decide ((1 : Int) < 2) = true := rfl
          have hRR : R = none := by rw [h5]; simp [getT]
          refine ⟨?_, fun e' s' hh => ?_⟩
          · rw [hRR]
            simp only [M40, M40b0, E40, n0, l1, d1, getV, ev1_lensV', qES0, qES1, qES2, env0, List.length_cons, List.length_nil, Nat.reduceAdd, Nat.reduceSub, List.replicate, List.cons_append, List.nil_append, opd, Env.put, Env.at, List.set_cons_zero, List.set_cons_succ, List.getD_cons_zero, List.getD_cons_succ, freezeL, resVs, oneOr, Option.map_some, Option.map_none, List.map_cons, List.map_nil, if_true, if_false, Bool.not_true, Bool.not_false, Bool.false_eq_true, reduceIte, decide_true, decide_false, Int.reduceLT, Int.reduceLE, Int.reduceGT, Int.reduceGE, Int.reduceEq, Int.reduceBEq, Int.reduceBNe, load_ptr, ldV_some, cellAt_cells, List.getElem?_cons_zero, List.getElem?_cons_succ, store_ptr, stO_some, setAt_0, setAt_1, setAt_2, setAt_3, setAt_4, setAt_5, setAt_6, setAt_7, setAt_8, setAt_9, setAt_10, setAt_11, setAt_12, cells_int, cells_bool, cells_str, cells_nils, cells_nilp, cells_ptr, cells_sl, cells_u8, cells_u16, cells_agg, get_upd_is, Option.isSome_some, upd_upd, ev1_nchkV, ev1_faV, nchkV_ptr, faV_ptr, ev1_extV, extV_tup, eqptr_nil, eqptr_ptr, Nat.zero_add, Nat.add_zero, qPL0, qPL1, qPL2, qPL3, qPL4, qPL5, beq_self_eq_true]
          · simp only [M40b0, E40, n0, l1, d1, ev1_lensV', qES0, qES1, qES2, env0, List.length_cons, List.length_nil, Nat.reduceAdd, Nat.reduceSub, List.replicate, List.cons_append, List.nil_append, opd, Env.put, Env.at, List.set_cons_zero, List.set_cons_succ, List.getD_cons_zero, List.getD_cons_succ, freezeL, resVs, oneOr, Option.map_some, Option.map_none, List.map_cons, List.map_nil, if_true, if_false, Bool.not_true, Bool.not_false, Bool.false_eq_true, reduceIte, decide_true, decide_false, Int.reduceLT, Int.reduceLE, Int.reduceGT, Int.reduceGE, Int.reduceEq, Int.reduceBEq, Int.reduceBNe, load_ptr, ldV_some, cellAt_cells, List.getElem?_cons_zero, List.getElem?_cons_succ, store_ptr, stO_some, setAt_0, setAt_1, setAt_2, setAt_3, setAt_4, setAt_5, setAt_6, setAt_7, setAt_8, setAt_9, setAt_10, setAt_11, setAt_12, cells_int, cells_bool, cells_str, cells_nils, cells_nilp, cells_ptr, cells_sl, cells_u8, cells_u16, cells_agg, get_upd_is, Option.isSome_some, upd_upd, ev1_nchkV, ev1_faV, nchkV_ptr, faV_ptr, ev1_extV, extV_tup, eqptr_nil, eqptr_ptr, Nat.zero_add, Nat.add_zero, qPL0, qPL1, qPL2, qPL3, qPL4, qPL5, beq_self_eq_true] at hh
            cases hh
        | a :: b :: r, h3, h5 =>
          simp only [List.length_cons] at h3
          rcases get40_round 999 a b r (by omega) st acc done (by omega) h2 with ⟨k1, k2, e', S', acc', k3, k4, k5⟩ | ⟨k1, e', S', k3, k4, k5⟩
          · left
            refine ⟨e', S', k3, r.drop b.toNat, acc', _, k4, k5, by rw [List.length_drop]; omega, by simp [h4], ?_⟩
            rw [h5, show 65 - (i + 1) = f by omega]
            show ((if b.toNat > 40 ∨ r.length < b.toNat then none else (getT f (r.drop b.toNat)).map (((a.toNat : Int), r.take b.toNat) :: ·))).map (done ++ ·) = _
            rw [if_neg (by omega), Option.map_map]
            congr 1
            funext x
            simp
          · right
            rw [k3]
            have hRR : R = none := by
              rw [h5]
              show ((if b.toNat > 40 ∨ r.length < b.toNat then none else (getT f (r.drop b.toNat)).map (((a.toNat : Int), r.take b.toNat) :: ·))).map (done ++ ·) = _
              rw [if_pos k1]; rfl
            rw [hRR]
            refine ⟨?_, fun _ _ h => by cases h⟩
            simp only [M40, k4, k5, getV, qES0, qES1, qES2, env0, List.length_cons, List.length_nil, Nat.reduceAdd, Nat.reduceSub, List.replicate, List.cons_append, List.nil_append, opd, Env.put, Env.at, List.set_cons_zero, List.set_cons_succ, List.getD_cons_zero, List.getD_cons_succ, freezeL, resVs, oneOr, Option.map_some, Option.map_none, List.map_cons, List.map_nil, if_true, if_false, Bool.not_true, Bool.not_false, Bool.false_eq_true, reduceIte, decide_true, decide_false, Int.reduceLT, Int.reduceLE, Int.reduceGT, Int.reduceGE, Int.reduceEq, Int.reduceBEq, Int.reduceBNe, load_ptr, ldV_some, cellAt_cells, List.getElem?_cons_zero, List.getElem?_cons_succ, store_ptr, stO_some, setAt_0, setAt_1, setAt_2, setAt_3, setAt_4, setAt_5, setAt_6, setAt_7, setAt_8, setAt_9, setAt_10, setAt_11, setAt_12, cells_int, cells_bool, cells_str, cells_nils, cells_nilp, cells_ptr, cells_sl, cells_u8, cells_u16, cells_agg, get_upd_is, Option.isSome_some, upd_upd, ev1_nchkV, ev1_faV, nchkV_ptr, faV_ptr, ev1_extV, extV_tup, eqptr_nil, eqptr_ptr, Nat.zero_add, Nat.add_zero, qPL0, qPL1, qPL2, qPL3, qPL4, qPL5, beq_self_eq_true]
      · rintro e st ⟨t, acc, done, h1, h2, h3, h4, h5⟩
        omega
    simp only [M40, lst, d0, evC_loop, ev1_lensV', qES0, qES1, qES2, env0, List.length_cons, List.length_nil, Nat.reduceAdd, Nat.reduceSub, List.replicate, List.cons_append, List.nil_append, opd, Env.put, Env.at, List.set_cons_zero, List.set_cons_succ, List.getD_cons_zero, List.getD_cons_succ, freezeL, resVs, oneOr, Option.map_some, Option.map_none, List.map_cons, List.map_nil, if_true, if_false, Bool.not_true, Bool.not_false, Bool.false_eq_true, reduceIte, decide_true, decide_false, Int.reduceLT, Int.reduceLE, Int.reduceGT, Int.reduceGE, Int.reduceEq, Int.reduceBEq, Int.reduceBNe, load_ptr, ldV_some, cellAt_cells, List.getElem?_cons_zero, List.getElem?_cons_succ, store_ptr, stO_some, setAt_0, setAt_1, setAt_2, setAt_3, setAt_4, setAt_5, setAt_6, setAt_7, setAt_8, setAt_9, setAt_10, setAt_11, setAt_12, cells_int, cells_bool, cells_str, cells_nils, cells_nilp, cells_ptr, cells_sl, cells_u8, cells_u16, cells_agg, get_upd_is, Option.isSome_some, upd_upd, ev1_nchkV, ev1_faV, nchkV_ptr, faV_ptr, ev1_extV, extV_tup, eqptr_nil, eqptr_ptr, Nat.zero_add, Nat.add_zero, qPL0, qPL1, qPL2, qPL3, qPL4, qPL5, beq_self_eq_true]
    exact key _ rfl
end Go.Proofs.YtbeimfhodgmjhaaDoor
