/- What both send at once takes not too long: the loops of the law MeetBoth. No conditions. -/
import Derived.Test.YtbeimfhodgmjhaaDoorWr8
import Derived.Test.YtbeimfhodgmjhaaDoorBest
import Derived.Test.YtbeimfhodgmjhaaDoorArg
import Derived.Test.YtbeimfhodgmjhaaDoorM8_6
set_option linter.unusedSimpArgs false
set_option linter.unusedVariables false
set_option maxRecDepth 100000
set_option maxHeartbeats 4000000
namespace Go.Proofs.YtbeimfhodgmjhaaDoor
open Go Go.Ab
theorem IsBytes_bys {x : AV} {b : List UInt8} (h : IsBytes x b) : Bys x b := by
  rcases h with h | h
  · exact .inl h
  · exact .inr ⟨_, h⟩
/-- Bytes under way, in a block of one's own. -/
def HB (z0 : Nat) (S : St) (l : AV) (W : List UInt8) : Prop := (l = .nils ∧ W = []) ∨ ∃ b, l = .hs 1 b 0 W.length ∧ z0 ≤ b ∧ b < S.next ∧ Has S b W ∧ W ≠ []
theorem HB.ext {z0 : Nat} {S S' : St} {l : AV} {W : List UInt8} (h : HB z0 S l W) (e : Ext S S') : HB z0 S' l W := by
  rcases h with h | ⟨b, h1, h2, h3, h4, h5⟩
  · exact .inl h
  · exact .inr ⟨b, h1, h2, Nat.lt_of_lt_of_le h3 e.le, (e.get b h3).trans h4, h5⟩
theorem HB.len {z0 : Nat} {S : St} {l : AV} {W : List UInt8} (h : HB z0 S l W) : lenV l = some (.int .i64 (W.length : Nat)) := by
  rcases h with ⟨rfl, rfl⟩ | ⟨b, rfl, _⟩ <;> rfl
theorem HB.app {z0 : Nat} {S : St} {l y : AV} {W ys : List UInt8} (h : HB z0 S l W) (g : Bys y ys) (h0 : ys ≠ []) (hz : z0 ≤ S.next) (hl : W.length + ys.length ≤ 1000000) :
    ∃ z S', appV true 1 1 S l y = some (z, S') ∧ HB z0 S' z (W ++ ys) ∧ S.next ≤ S'.next ∧ ∀ j, j < z0 → S'.get j = S.get j := by
  have hp : 0 < ys.length := List.length_pos_iff.2 h0
  rcases h with ⟨rfl, rfl⟩ | ⟨b, rfl, h1, h2, h3, h4⟩
  · refine ⟨.hs 1 S.next 0 ys.length, S.new (.cells 1 (bytesAV ys)), ?_, .inr ⟨_, rfl, hz, by simp [St.new], get_new_eq _ _, h0⟩, by simp [St.new], fun j hj => get_new_ne _ _ (by omega)⟩
    simp only [appV, g.news, notSl, Bool.and_self, if_true, appH]
    rw [if_neg (by omega), if_pos (fits_small (by omega))]
  · refine ⟨.hs 1 S.next 0 (W ++ ys).length, (S.upd b .dead).new (.cells 1 (bytesAV (W ++ ys))), ?_, .inr ⟨_, rfl, hz, by simp [St.new, St.upd], get_new_eq (S.upd b .dead) _, by simp [h0]⟩, by simp [St.new, St.upd], fun j hj => ?_⟩
    · have h3' : S.get b = _ := h3
      simp only [appV, g.news, notSl, Bool.and_self, if_true, appH, h3']
      rw [if_pos ⟨trivial, trivial, by simp [bytesAV_length], fits_small (by omega)⟩, bytesAV_append, List.length_append]
    · rw [get_new_ne _ _ (by show j ≠ S.next; omega), get_upd_ne _ _ (by omega)]
theorem freeze_any {S : St} {b : Nat} {xs : List UInt8} (h : Has S b xs ∨ Froz S b xs) :
    ∃ S', Ab.freeze 1 S (.hs 1 b 0 xs.length) = some (.sl (bytesAV xs) xs.length none, S') ∧ Froz S' b xs ∧ S'.next = S.next ∧ ∀ j, j ≠ b → S'.get j = S.get j := by
  rcases h with h | h
  · exact ⟨_, h.freeze, h.froz, rfl, fun j hj => get_upd_ne _ _ hj⟩
  · exact ⟨S, h.freeze, h, rfl, fun j _ => rfl⟩
/-- Every deal: not too long. -/
theorem meet_chk : ((List.range 4).all fun i => (List.range 4).all fun j => (List.range 8).all fun n => decide (n = 0 ∨ (winZ (frameZ (sizeZ i) (baudZ j)) n * frameZ (sizeZ i) (baudZ j) ≤ 30 ∧ winZ (frameZ (sizeZ i) (baudZ j)) n * (2 * sizeZ i + 13) ≤ 30 * baudZ j ∧ 0 < baudZ j))) = true := by kernel_rfl
theorem both_chk : ((List.range 16).all fun a => (List.range 16).all fun b => decide (a % 2 = 0 ∨ b % 2 = 0 ∨ (0 ≤ highZ (andZ a b) ∧ highZ (andZ a b) ≤ 3))) = true := by kernel_rfl
theorem high_z : ((List.range 16).all fun n => decide (n = 0 ∨ (0 ≤ highZ n ∧ highZ n ≤ 3))) = true := by kernel_rfl
theorem ticks_le (L W baud : Int) (h : L ≤ W) (hW : W ≤ 30 * baud) (hb : 0 < baud) : ticksZ L baud ≤ 30 := by
  unfold ticksZ
  split
  · omega
  · have : (L - 1) / baud < 30 := Int.ediv_lt_of_lt_mul hb (by omega)
    omega
def E6b (o x : AV) (i : Int) : Env := [.undef, .undef, .undef, .undef, .undef, .undef, .undef, .undef, .ptr (St.nil.next + 2) 0, .undef, .undef, .undef, o, x, .undef, .int .i64 i, .undef, .undef, .undef, .undef, .undef, .undef, .undef, .undef, .undef, .undef, .undef, .undef, .undef, .undef, .undef, .undef, .undef, .undef, .undef, .undef, .undef, .undef, .undef, .undef, .undef, .undef, .undef, .undef, .undef, .undef, .undef, .undef, .undef, .undef, .undef, .undef, .undef, .undef, .undef, .undef, .undef, .undef, .undef, .undef, .undef, .undef, .undef, .undef, .undef, .undef, .undef, .undef, .undef, .undef, .undef, .undef, .undef, .undef, .undef, .undef, .undef, .undef, .undef, .undef, .undef, .undef, .undef, .undef, .undef, .undef, .undef, .undef, .undef, .undef, .undef, .undef, .undef, .undef, .undef, .undef, .undef, .undef, .undef, .undef, .undef, .undef, .undef, .undef, .undef, .undef, .undef, .undef, .undef, .undef, .undef, .undef, .undef, .undef, .undef, .undef, .undef, .undef, .undef, .undef, .undef, .undef, .undef, .undef, .undef, .undef, .undef, .undef, .undef, .undef]
def E6a (x2 : AV) (n i : Int) : Env := [.undef, .undef, x2, .undef, .undef, .undef, .undef, .undef, .ptr (St.nil.next + 2) 0, .undef, .undef, .undef, .nils, .hs 1 (St.nil.next + 4) 0 n.toNat, .undef, .undef, .undef, .undef, .undef, .undef, .undef, .undef, .undef, .undef, .undef, .undef, .undef, .undef, .undef, .undef, .undef, .undef, .undef, .undef, .undef, .undef, .undef, .undef, .undef, .undef, .undef, .undef, .undef, .undef, .undef, .undef, .undef, .undef, .undef, .undef, .undef, .undef, .undef, .undef, .undef, .undef, .undef, .undef, .undef, .undef, .undef, .undef, .undef, .undef, .undef, .undef, .undef, .undef, .undef, .undef, .undef, .undef, .undef, .undef, .undef, .undef, .undef, .undef, .undef, .undef, .undef, .undef, .undef, .undef, .undef, .undef, .undef, .undef, .undef, .undef, .undef, .undef, .undef, .undef, .undef, .undef, .undef, .undef, .undef, .undef, .undef, .undef, .int .i64 n, .int .i64 i, .undef, .undef, .undef, .undef, .undef, .undef, .undef, .undef, .undef, .undef, .undef, .undef, .undef, .undef, .undef, .undef, .undef, .undef, .undef, .undef, .undef, .undef, .undef, .undef, .undef, .undef]
theorem k42 (k : Nat) (m o : Of5) (s : St) : evK (k + 1) 42 [.agg m.cells, .agg o.cells] s = some (if m.may ∧ o.may then .tup [.agg (dealO m o).cells, .bool true] else .tup [.agg (ofC 0 0 0 0 0), .bool false], s) := evF_ext (H := hDeal) rfl rfl
theorem wrap_len (xs : List UInt8) : (wr.wrapB xs 1).length ≤ 2 * xs.length + 7 ∧ wr.wrapB xs 1 ≠ [] := by
  have h1 := wr.esc_length (wr.crcPut xs)
  have h2 := wr.crcPut_length xs
  have h3 : (wr.wrapB xs 1).length = 3 + (wr.esc (wr.crcPut xs)).length := by simp [wr.wrapB, wr.ahead]; omega
  refine ⟨by omega, fun h => ?_⟩
  rw [h, List.length_nil] at h3
  omega
theorem meet_send (db ds dw dz dt : Int) (w : Nat) (hw : dw = (w : Nat)) (hw7 : w ≤ 7) (hz : 0 ≤ dz) (hz2 : dz ≤ 64) (hb : dw * (2 * dz + 13) ≤ 30 * db) (hb0 : 0 < db) (cs : List UInt8) (hc : (cs.length : Int) = 3 + dz)
    (st : St) (h2 : st.get (St.nil.next + 2) = some (.cells 0 [.int .i64 db, .int .i64 ds, .int .i64 dw, .int .i64 dz, .int .i64 dt])) (h4 : Has st (St.nil.next + 4) cs) (hn : st.next = St.nil.next + 5) :
    ∀ e, maskE M6b0l e = E6b .nils (.hs 1 (St.nil.next + 4) 0 cs.length) 0 → valR (outR M6.res (seqR (blockR 2 (iter (evC tabGl (evK 999) 999 M6b0) M6b0l 999 e st)) (evC tabGl (evK 999) 999 M6r0))) = some (.bool true) := by
  intro e he
  refine iter_leave (evC tabGl (evK 999) 999 M6b0) M6b0l (fun i e s => ∃ o W, maskE M6b0l e = E6b o (.hs 1 (St.nil.next + 4) 0 cs.length) (i : Int) ∧ HB (St.nil.next + 5) s o W ∧ (W.length : Int) ≤ (i : Int) * (2 * dz + 13) ∧ s.get (St.nil.next + 2) = some (.cells 0 [.int .i64 db, .int .i64 ds, .int .i64 dw, .int .i64 dz, .int .i64 dt]) ∧ (Has s (St.nil.next + 4) cs ∨ Froz s (St.nil.next + 4) cs) ∧ St.nil.next + 5 ≤ s.next)
    (fun out => valR (outR M6.res (seqR (blockR 2 out) (evC tabGl (evK 999) 999 M6r0))) = some (.bool true)) w ?_ ?_ w 0 _ _ 999 (by omega) ⟨.nils, [], he, .inl ⟨rfl, rfl⟩, by simp, h2, .inl h4, by omega⟩ (by omega)
  · rintro i e s hi ⟨o, W, h1, hB, hWl, hg2, hg4, hnx⟩
    left
    rw [h1]
    have d0 : decide ((i : Int) < dw) = true := decide_eq_true (by omega)
    have w1 : IntKind.i64.wrap ((i : Int) + 1) = ((i + 1 : Nat) : Int) := (wrapI _ (by omega) (by omega)).trans (by omega)
    obtain ⟨s1, f1, f2, f3, f4⟩ := freeze_any hg4
    obtain ⟨y, s2, y1, y2, y3⟩ := wr.wrap_ev (Bys.mk cs none) 1 968 (by omega) (by omega) s1
    have hB1 : HB (St.nil.next + 5) s1 o W := by
      rcases hB with h | ⟨b, q1, q2, q3, q4, q5⟩
      · exact .inl h
      · exact .inr ⟨b, q1, q2, by omega, (f4 b (by omega)).trans q4, q5⟩
    have wl := wrap_len cs
    have hi13 : (i : Int) * (2 * dz + 13) ≤ 7 * (2 * 64 + 13) := Int.mul_le_mul (by omega) (by omega) (by omega) (by omega)
    have hsz : st.next = st.next := rfl
    obtain ⟨z, s3, z1, z2, z3, z4⟩ := (hB1.ext y3).app y2.bys wl.2 (by have := y3.le; omega) (by omega)
    have q1 : (s.pl []).get (St.nil.next + 2) = _ := hg2
    have a1 : s3.get (St.nil.next + 2) = some (.cells 0 [.int .i64 db, .int .i64 ds, .int .i64 dw, .int .i64 dz, .int .i64 dt]) := by
      rw [z4 _ (by omega), y3.get _ (by omega), f4 _ (by omega), hg2]
    have a2 : Froz s3 (St.nil.next + 4) cs := by
      show s3.get _ = _
      rw [z4 _ (by omega), y3.get _ (by omega)]
      exact f2
    have f1' : Ab.freeze 1 (s.pl []) (.hs 1 (St.nil.next + 4) 0 cs.length) = some (.sl (bytesAV cs) cs.length none, s1) := f1
    simp only [Nat.reduceAdd] at y1
    rw [show s = s.pl [] from rfl]
    simp only [M6b0, E6b, q1, d0, w1, f1', y1, z1, ev1_extV, qES0, qES1, qES2, env0, List.length_cons, List.length_nil, Nat.reduceAdd, Nat.reduceSub, List.replicate, List.cons_append, List.nil_append, opd, Env.put, Env.at, List.set_cons_zero, List.set_cons_succ, List.getD_cons_zero, List.getD_cons_succ, freezeL, resVs, oneOr, Option.map_some, Option.map_none, List.map_cons, List.map_nil, if_true, if_false, Bool.not_true, Bool.not_false, Bool.false_eq_true, reduceIte, decide_true, decide_false, Int.reduceLT, Int.reduceLE, Int.reduceGT, Int.reduceGE, Int.reduceEq, Int.reduceBEq, Int.reduceBNe, load_ptr, ldV_some, cellAt_cells, List.getElem?_cons_zero, List.getElem?_cons_succ, store_ptr, stO_some, setAt_0, setAt_1, setAt_2, setAt_3, setAt_4, setAt_5, setAt_6, setAt_7, setAt_8, setAt_9, setAt_10, setAt_11, setAt_12, cells_int, cells_bool, cells_str, cells_nils, cells_nilp, cells_ptr, cells_sl, cells_u8, cells_u16, cells_agg, get_upd_is, Option.isSome_some, upd_upd, ev1_nchkV, ev1_faV, nchkV_ptr, faV_ptr, ev1_extV, extV_tup, eqptr_nil, eqptr_ptr, Nat.zero_add, Nat.add_zero, qPL0, qPL1, qPL2, qPL3, qPL4, qPL5, beq_self_eq_true]
    refine ⟨_, _, rfl, z, _, rfl, z2, ?_, a1, .inr a2, by have := y3.le; omega⟩
    rw [List.length_append]
    have hm : (((i + 1 : Nat) : Int)) * (2 * dz + 13) = (i : Int) * (2 * dz + 13) + (2 * dz + 13) := by
      rw [show (((i + 1 : Nat) : Int)) = (i : Int) + 1 by omega, Int.add_mul, Int.one_mul]
    rw [hm]
    omega
  · rintro e s ⟨o, W, h1, hB, hWl, hg2, hg4, hnx⟩
    rw [h1]
    have d0 : decide (((w : Nat) : Int) < dw) = false := decide_eq_false (by omega)
    have lo := hB.len
    have q1 : (s.pl []).get (St.nil.next + 2) = _ := hg2
    rw [← hw] at hWl
    have hi13 : dw * (2 * dz + 13) ≤ 7 * (2 * 64 + 13) := Int.mul_le_mul (by omega) (by omega) (by omega) (by omega)
    have h36 := k36 998 (W.length : Nat) db ⟨by omega, by omega⟩
    have d1 : decide (ticksZ (W.length : Nat) db ≤ 30) = true := decide_eq_true (ticks_le _ _ _ hWl hb hb0)
    refine ⟨?_, fun e' s' hh => ?_⟩
    · rw [show s = s.pl [] from rfl]
      simp only [M6, M6r0, M6b0, E6b, q1, d0, lo, h36, d1, ev1_extV, qES0, qES1, qES2, env0, List.length_cons, List.length_nil, Nat.reduceAdd, Nat.reduceSub, List.replicate, List.cons_append, List.nil_append, opd, Env.put, Env.at, List.set_cons_zero, List.set_cons_succ, List.getD_cons_zero, List.getD_cons_succ, freezeL, resVs, oneOr, Option.map_some, Option.map_none, List.map_cons, List.map_nil, if_true, if_false, Bool.not_true, Bool.not_false, Bool.false_eq_true, reduceIte, decide_true, decide_false, Int.reduceLT, Int.reduceLE, Int.reduceGT, Int.reduceGE, Int.reduceEq, Int.reduceBEq, Int.reduceBNe, load_ptr, ldV_some, cellAt_cells, List.getElem?_cons_zero, List.getElem?_cons_succ, store_ptr, stO_some, setAt_0, setAt_1, setAt_2, setAt_3, setAt_4, setAt_5, setAt_6, setAt_7, setAt_8, setAt_9, setAt_10, setAt_11, setAt_12, cells_int, cells_bool, cells_str, cells_nils, cells_nilp, cells_ptr, cells_sl, cells_u8, cells_u16, cells_agg, get_upd_is, Option.isSome_some, upd_upd, ev1_nchkV, ev1_faV, nchkV_ptr, faV_ptr, ev1_extV, extV_tup, eqptr_nil, eqptr_ptr, Nat.zero_add, Nat.add_zero, qPL0, qPL1, qPL2, qPL3, qPL4, qPL5, beq_self_eq_true]
    · rw [show s = s.pl [] from rfl] at hh
      simp only [M6b0, E6b, q1, d0, qES0, qES1, qES2, env0, List.length_cons, List.length_nil, Nat.reduceAdd, Nat.reduceSub, List.replicate, List.cons_append, List.nil_append, opd, Env.put, Env.at, List.set_cons_zero, List.set_cons_succ, List.getD_cons_zero, List.getD_cons_succ, freezeL, resVs, oneOr, Option.map_some, Option.map_none, List.map_cons, List.map_nil, if_true, if_false, Bool.not_true, Bool.not_false, Bool.false_eq_true, reduceIte, decide_true, decide_false, Int.reduceLT, Int.reduceLE, Int.reduceGT, Int.reduceGE, Int.reduceEq, Int.reduceBEq, Int.reduceBNe, load_ptr, ldV_some, cellAt_cells, List.getElem?_cons_zero, List.getElem?_cons_succ, store_ptr, stO_some, setAt_0, setAt_1, setAt_2, setAt_3, setAt_4, setAt_5, setAt_6, setAt_7, setAt_8, setAt_9, setAt_10, setAt_11, setAt_12, cells_int, cells_bool, cells_str, cells_nils, cells_nilp, cells_ptr, cells_sl, cells_u8, cells_u16, cells_agg, get_upd_is, Option.isSome_some, upd_upd, ev1_nchkV, ev1_faV, nchkV_ptr, faV_ptr, ev1_extV, extV_tup, eqptr_nil, eqptr_ptr, Nat.zero_add, Nat.add_zero, qPL0, qPL1, qPL2, qPL3, qPL4, qPL5, beq_self_eq_true] at hh
      cases hh
def SM (ca cb : List AV) (db ds dw dz dt : Int) (ce : List AV) (cs : List UInt8) : St := St.nil.pl [.cells 0 ca, .cells 0 cb, .cells 0 [.int .i64 db, .int .i64 ds, .int .i64 dw, .int .i64 dz, .int .i64 dt], .cells 0 ce, .cells 1 (bytesAV cs)]
theorem meet_fill (ca cb ce : List AV) (db ds dw dz dt : Int) (w : Nat) (hw : dw = (w : Nat)) (hw7 : w ≤ 7) (hz : 0 ≤ dz) (hz2 : dz ≤ 64) (hb : dw * (2 * dz + 13) ≤ 30 * db) (hb0 : 0 < db) (n : Nat) (hn : (n : Int) = 3 + dz) {x2 : AV} {b2 : List UInt8} (hx : Bys x2 b2)
    (cs0 : List UInt8) (h0 : cs0.length = n) :
    ∀ e, maskE M6b1l e = E6a x2 n 0 → valR (outR M6.res (seqR (blockR 0 (iter (evC tabGl (evK 999) 999 M6b1) M6b1l 999 e (SM ca cb db ds dw dz dt ce cs0))) (evC tabGl (evK 999) 999 M6r1))) = some (.bool true) := by
  intro e he
  refine iter_leave (evC tabGl (evK 999) 999 M6b1) M6b1l (fun i e s => ∃ cs, maskE M6b1l e = E6a x2 n (i : Int) ∧ s = SM ca cb db ds dw dz dt ce cs ∧ cs.length = n)
    (fun out => valR (outR M6.res (seqR (blockR 0 out) (evC tabGl (evK 999) 999 M6r1))) = some (.bool true)) n ?_ ?_ n 0 _ _ 999 (by omega) ⟨cs0, he, rfl, h0⟩ (by omega)
  · rintro i e s hi ⟨cs, h1, rfl, h3⟩
    left
    rw [h1]
    have d0 : decide ((i : Int) < (n : Nat)) = true := decide_eq_true (by omega)
    have w1 : IntKind.i64.wrap ((i : Int) + 1) = ((i + 1 : Nat) : Int) := (wrapI _ (by omega) (by omega)).trans (by omega)
    have lx := hx.len
    have ix : ixaV 1 (.hs 1 (St.nil.next + 4) 0 ((n : Int)).toNat) (.int .i64 (i : Int)) = some (.ptr (St.nil.next + 4) i) := hs_ixa _ _ _ (by omega)
    have sa : setAt (some (.cells 1 (bytesAV cs))) i (some [.int .u8 192]) = some (.cells 1 (bytesAV (cs.set i 192))) := by
      show setAt _ _ (some [u8v 192]) = _
      simp [setAt, bytesAV_length, bytesAV_set]; omega
    by_cases g : (i : Int) ≥ (b2.length : Nat)
    · have d1 : decide ((i : Int) ≥ (b2.length : Nat)) = true := decide_eq_true g
      simp only [M6b1, E6a, SM, d0, d1, w1, lx, ix, sa, ev1_extV, qES0, qES1, qES2, env0, List.length_cons, List.length_nil, Nat.reduceAdd, Nat.reduceSub, List.replicate, List.cons_append, List.nil_append, opd, Env.put, Env.at, List.set_cons_zero, List.set_cons_succ, List.getD_cons_zero, List.getD_cons_succ, freezeL, resVs, oneOr, Option.map_some, Option.map_none, List.map_cons, List.map_nil, if_true, if_false, Bool.not_true, Bool.not_false, Bool.false_eq_true, reduceIte, decide_true, decide_false, Int.reduceLT, Int.reduceLE, Int.reduceGT, Int.reduceGE, Int.reduceEq, Int.reduceBEq, Int.reduceBNe, load_ptr, ldV_some, cellAt_cells, List.getElem?_cons_zero, List.getElem?_cons_succ, store_ptr, stO_some, setAt_0, setAt_1, setAt_2, setAt_3, setAt_4, setAt_5, setAt_6, setAt_7, setAt_8, setAt_9, setAt_10, setAt_11, setAt_12, cells_int, cells_bool, cells_str, cells_nils, cells_nilp, cells_ptr, cells_sl, cells_u8, cells_u16, cells_agg, get_upd_is, Option.isSome_some, upd_upd, ev1_nchkV, ev1_faV, nchkV_ptr, faV_ptr, ev1_extV, extV_tup, eqptr_nil, eqptr_ptr, Nat.zero_add, Nat.add_zero, qPL0, qPL1, qPL2, qPL3, qPL4, qPL5, beq_self_eq_true]
      exact ⟨_, _, rfl, cs.set i 192, rfl, rfl, by simpa using h3⟩
    · have d1 : decide ((i : Int) ≥ (b2.length : Nat)) = false := decide_eq_false g
      simp only [M6b1, E6a, SM, d0, d1, w1, lx, ix, sa, ev1_extV, qES0, qES1, qES2, env0, List.length_cons, List.length_nil, Nat.reduceAdd, Nat.reduceSub, List.replicate, List.cons_append, List.nil_append, opd, Env.put, Env.at, List.set_cons_zero, List.set_cons_succ, List.getD_cons_zero, List.getD_cons_succ, freezeL, resVs, oneOr, Option.map_some, Option.map_none, List.map_cons, List.map_nil, if_true, if_false, Bool.not_true, Bool.not_false, Bool.false_eq_true, reduceIte, decide_true, decide_false, Int.reduceLT, Int.reduceLE, Int.reduceGT, Int.reduceGE, Int.reduceEq, Int.reduceBEq, Int.reduceBNe, load_ptr, ldV_some, cellAt_cells, List.getElem?_cons_zero, List.getElem?_cons_succ, store_ptr, stO_some, setAt_0, setAt_1, setAt_2, setAt_3, setAt_4, setAt_5, setAt_6, setAt_7, setAt_8, setAt_9, setAt_10, setAt_11, setAt_12, cells_int, cells_bool, cells_str, cells_nils, cells_nilp, cells_ptr, cells_sl, cells_u8, cells_u16, cells_agg, get_upd_is, Option.isSome_some, upd_upd, ev1_nchkV, ev1_faV, nchkV_ptr, faV_ptr, ev1_extV, extV_tup, eqptr_nil, eqptr_ptr, Nat.zero_add, Nat.add_zero, qPL0, qPL1, qPL2, qPL3, qPL4, qPL5, beq_self_eq_true]
      exact ⟨_, _, rfl, cs, rfl, rfl, h3⟩
  · rintro e s ⟨cs, h1, rfl, h3⟩
    rw [h1]
    have d0 : decide (((n : Nat) : Int) < (n : Nat)) = false := decide_eq_false (by omega)
    have hl := meet_send db ds dw dz dt w hw hw7 hz hz2 hb hb0 cs (by omega) (SM ca cb db ds dw dz dt ce cs) (plg2 _ _ _ _ _) (plg4 _ _ _ _ _ _ _) (by unfold SM; rw [pl_next]; rfl)
    rw [h3] at hl
    refine ⟨?_, fun e' s' hh => ?_⟩
    · simp only [M6r1, M6b1, E6a, SM, d0, evC_loop, qES0, qES1, qES2, env0, List.length_cons, List.length_nil, Nat.reduceAdd, Nat.reduceSub, List.replicate, List.cons_append, List.nil_append, opd, Env.put, Env.at, List.set_cons_zero, List.set_cons_succ, List.getD_cons_zero, List.getD_cons_succ, freezeL, resVs, oneOr, Option.map_some, Option.map_none, List.map_cons, List.map_nil, if_true, if_false, Bool.not_true, Bool.not_false, Bool.false_eq_true, reduceIte, decide_true, decide_false, Int.reduceLT, Int.reduceLE, Int.reduceGT, Int.reduceGE, Int.reduceEq, Int.reduceBEq, Int.reduceBNe, load_ptr, ldV_some, cellAt_cells, List.getElem?_cons_zero, List.getElem?_cons_succ, store_ptr, stO_some, setAt_0, setAt_1, setAt_2, setAt_3, setAt_4, setAt_5, setAt_6, setAt_7, setAt_8, setAt_9, setAt_10, setAt_11, setAt_12, cells_int, cells_bool, cells_str, cells_nils, cells_nilp, cells_ptr, cells_sl, cells_u8, cells_u16, cells_agg, get_upd_is, Option.isSome_some, upd_upd, ev1_nchkV, ev1_faV, nchkV_ptr, faV_ptr, ev1_extV, extV_tup, eqptr_nil, eqptr_ptr, Nat.zero_add, Nat.add_zero, qPL0, qPL1, qPL2, qPL3, qPL4, qPL5, beq_self_eq_true]
      exact hl _ rfl
    · simp only [M6b1, E6a, SM, d0, qES0, qES1, qES2, env0, List.length_cons, List.length_nil, Nat.reduceAdd, Nat.reduceSub, List.replicate, List.cons_append, List.nil_append, opd, Env.put, Env.at, List.set_cons_zero, List.set_cons_succ, List.getD_cons_zero, List.getD_cons_succ, freezeL, resVs, oneOr, Option.map_some, Option.map_none, List.map_cons, List.map_nil, if_true, if_false, Bool.not_true, Bool.not_false, Bool.false_eq_true, reduceIte, decide_true, decide_false, Int.reduceLT, Int.reduceLE, Int.reduceGT, Int.reduceGE, Int.reduceEq, Int.reduceBEq, Int.reduceBNe, load_ptr, ldV_some, cellAt_cells, List.getElem?_cons_zero, List.getElem?_cons_succ, store_ptr, stO_some, setAt_0, setAt_1, setAt_2, setAt_3, setAt_4, setAt_5, setAt_6, setAt_7, setAt_8, setAt_9, setAt_10, setAt_11, setAt_12, cells_int, cells_bool, cells_str, cells_nils, cells_nilp, cells_ptr, cells_sl, cells_u8, cells_u16, cells_agg, get_upd_is, Option.isSome_some, upd_upd, ev1_nchkV, ev1_faV, nchkV_ptr, faV_ptr, ev1_extV, extV_tup, eqptr_nil, eqptr_ptr, Nat.zero_add, Nat.add_zero, qPL0, qPL1, qPL2, qPL3, qPL4, qPL5, beq_self_eq_true] at hh
      cases hh
/-- What is known of a deal. -/
theorem deal_known (a b : Of5) (ha : a.may) (hb : b.may) : (dealO a b).b = (dealO b a).b ∧ (dealO a b).s = (dealO b a).s ∧ 1 ≤ (dealO a b).w ∧ (dealO a b).w ≤ highZ b.w + 1 ∧ (dealO b a).w ≤ highZ a.w + 1 ∧ (dealO a b).w ≤ 7 ∧ (dealO a b).w * frameZ (dealO a b).z (dealO a b).b ≤ 30 ∧ (dealO a b).w * (2 * (dealO a b).z + 13) ≤ 30 * (dealO a b).b ∧ 0 < (dealO a b).b ∧ 0 ≤ (dealO a b).z ∧ (dealO a b).z ≤ 64 ∧ 0 ≤ frameZ (dealO a b).z (dealO a b).b ∧ frameZ (dealO a b).z (dealO a b).b ≤ 1000 ∧ 0 ≤ highZ b.w ∧ highZ b.w ≤ 6 ∧ 0 ≤ highZ a.w ∧ highZ a.w ≤ 6 := by
  obtain ⟨ab, a_s, aw, az, a_t⟩ := a
  obtain ⟨ob, os, ow, oz, ot⟩ := b
  have gm : mayP ab a_s aw az a_t := ha
  have go : mayP ob os ow oz ot := hb
  unfold mayP at gm go
  have hw := high_at ow (by omega) (by omega)
  have hv := high_at aw (by omega) (by omega)
  have comm : ∀ x y : Int, andZ x y = andZ y x := fun x y => by unfold andZ; rw [Nat.and_comm]
  have hbd : 0 ≤ highZ (andZ ab ob) ∧ highZ (andZ ab ob) ≤ 3 := by
    have h := of_decide_eq_true (List.all_eq_true.1 (List.all_eq_true.1 both_chk ab.toNat (List.mem_range.2 (by omega))) ob.toNat (List.mem_range.2 (by omega)))
    rw [Int.toNat_of_nonneg (by omega), Int.toNat_of_nonneg (by omega)] at h
    omega
  have hzd : 0 ≤ highZ oz ∧ highZ oz ≤ 3 := by
    have h := of_decide_eq_true (List.all_eq_true.1 high_z oz.toNat (List.mem_range.2 (by omega)))
    rw [Int.toNat_of_nonneg (by omega)] at h
    omega
  have hm := of_decide_eq_true (List.all_eq_true.1 (List.all_eq_true.1 (List.all_eq_true.1 meet_chk (highZ oz).toNat (List.mem_range.2 (by omega))) (highZ (andZ ab ob)).toNat (List.mem_range.2 (by omega))) (highZ ow + 1).toNat (List.mem_range.2 (by omega)))
  rw [Int.toNat_of_nonneg hbd.1, Int.toNat_of_nonneg hzd.1] at hm
  have hm := hm.resolve_left (by omega)
  obtain ⟨x1, x2, _⟩ := winZ_spec (frameZ (sizeZ (highZ oz)) (baudZ (highZ (andZ ab ob)))) (highZ ow + 1).toNat (by omega)
  obtain ⟨y1, y2, _⟩ := winZ_spec (frameZ (sizeZ (highZ az)) (baudZ (highZ (andZ ob ab)))) (highZ aw + 1).toNat (by omega)
  have s1 := size_le (highZ oz)
  have f1 := frame_le (highZ oz) (highZ (andZ ab ob))
  refine ⟨?_, ?_, x1, ?_, ?_, ?_, hm.1, hm.2.1, hm.2.2, s1.1, s1.2, f1.1, f1.2, hw.1, hw.2, hv.1, hv.2⟩
  · show baudZ (highZ (andZ ab ob)) = baudZ (highZ (andZ ob ab)); rw [comm]
  · show silentZ (lowZ (andZ a_s os)) = silentZ (lowZ (andZ os a_s)); rw [comm]
  · show winZ (frameZ (sizeZ (highZ oz)) (baudZ (highZ (andZ ab ob)))) (highZ ow + 1).toNat ≤ highZ ow + 1; omega
  · show winZ (frameZ (sizeZ (highZ az)) (baudZ (highZ (andZ ob ab)))) (highZ aw + 1).toNat ≤ highZ aw + 1; omega
  · show winZ (frameZ (sizeZ (highZ oz)) (baudZ (highZ (andZ ab ob)))) (highZ ow + 1).toNat ≤ 7; omega
end Go.Proofs.YtbeimfhodgmjhaaDoor
