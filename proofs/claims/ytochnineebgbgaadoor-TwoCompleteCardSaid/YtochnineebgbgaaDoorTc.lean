/- glowwormlaw12's []Step as an argument. No conditions. -/
import Derived.Test.YtochnineebgbgaaDoorArgO
import Derived.Test.YtochnineebgbgaaDoorBy
import Derived.Test.YtochnineebgbgaaDoorSay
import Derived.Test.YtochnineebgbgaaDoorTurn4
set_option linter.unusedSimpArgs false
set_option linter.unusedVariables false
namespace Go.Proofs.YtochnineebgbgaaDoor
open Go Go.Ab Go.ChangeShapes Go.WideShapes Go.ChangeAt Go.RowKit
def stTypes : List TypeId := [3, 3, 3, 9]
theorem stSc : stTypes.all (isSc Tryd.prog) = true := by kernel_rfl
theorem scL_len4 {ts : List TypeId} {bs : List AV} (h : ScL Tryd.prog ts bs) : bs.length = ts.length := by
  induction h with
  | nil => rfl
  | cons _ _ _ _ _ _ ih => simp [ih]
/-- Steps: nil, or a list that never turns. -/
def IsSteps (x : AV) (rows : List (List AV)) : Prop := ((x = .nils ∧ rows = []) ∨ x = .sl rows.flatten rows.length none) ∧ ∀ r ∈ rows, ScL Tryd.prog stTypes r ∧ r.length = 4
section
variable {W : World} {H : Type} {enc : TypeId × Value → H} {base : Nat}
theorem st_trod {n : Nat} {cs : List Value} {y : DataW H × List MemPlace} (h : DataW.trod enc Tryd.prog W 0 (fun _ => true) true n 71 cs = some y) : ∃ bs, ScL Tryd.prog stTypes bs ∧ bs.length = 4 ∧ RelL (Gh.start W) bs cs := by
  have he := Tryd.underlying71
  have e3 : Tryd.prog.cellsOf 3 = 1 := by kernel_rfl
  have e9 : Tryd.prog.cellsOf 9 = 1 := by kernel_rfl
  have eO : Tryd.prog.cellsOf 71 = 4 := by kernel_rfl
  obtain ⟨bs, q1, q2⟩ := flat_trod (P := Tryd.prog) (W := W) (enc := enc) stTypes cs stSc ((len_trod he h).trans eO) (fun i t ht => by
    match i, ht with
    | 0, ht => cases ht; exact fld_trod he h 0 0 ⟨_, rfl, rfl, rfl⟩ e3
    | 1, ht => cases ht; exact fld_trod he h 1 1 ⟨_, rfl, rfl, rfl⟩ e3
    | 2, ht => cases ht; exact fld_trod he h 2 2 ⟨_, rfl, rfl, rfl⟩ e3
    | 3, ht => cases ht; exact fld_trod he h 3 3 ⟨_, rfl, rfl, rfl⟩ e9
    | i + 4, ht => simp [stTypes] at ht)
  exact ⟨bs, q1, scL_len4 q1, q2⟩
set_option maxRecDepth 100000 in
theorem arg_steps {t : TypeId} {v : Value} {d : DataW H} {ps : List MemPlace} (ht : Tryd.prog.underlying t = some (.slice 71)) (hval : Value.okWide Tryd.prog W .any base t v)
    (hd : DataW.Trod enc Tryd.prog W 0 (fun _ => true) true t v d ps) : ∃ x rows, IsSteps x rows ∧ RelV (Gh.start W) x v := by
  have hc : Tryd.prog.cellsOf 71 = 4 := by kernel_rfl
  obtain ⟨x, rows, h1, h2, h3⟩ := arg_rows (sz := 4) (ScL Tryd.prog stTypes) ht hc hval hd (fun n cs y hy => st_trod hy)
  exact ⟨x, rows, ⟨h1, h2⟩, h3⟩
end
theorem sc_int4 {a : AV} (h0 : Sc Tryd.prog 3 a) : ∃ n, a = .int .i64 n ∧ IntKind.i64.has n := by
  cases h0 with
  | int k n hu hn => rw [Tryd.underlying3] at hu; cases hu; exact ⟨n, rfl, hn⟩
  | bool b hu => rw [Tryd.underlying3] at hu; cases hu
  | str b hu hs => rw [Tryd.underlying3] at hu; cases hu
/-- One step. -/
theorem st_of {r : List AV} (h : ScL Tryd.prog stTypes r) : ∃ kind n loss body, r = [.int .i64 kind, .int .i64 n, .int .i64 loss, .str body] ∧ IntKind.i64.has kind ∧ IntKind.i64.has n ∧ IntKind.i64.has loss := by
  unfold stTypes at h
  cases h with | cons _ a0 _ _ h0 h => cases h with | cons _ a1 _ _ h1 h => cases h with | cons _ a2 _ _ h2 h => cases h with | cons _ a3 _ _ h3 h => cases h with | nil =>
  obtain ⟨x0, rfl, i0⟩ := sc_int4 h0
  obtain ⟨x1, rfl, i1⟩ := sc_int4 h1
  obtain ⟨x2, rfl, i2⟩ := sc_int4 h2
  obtain ⟨x3, rfl⟩ : ∃ b, a3 = .str b := by
    cases h3 with
    | int k n hu hn => rw [Tryd.underlying9] at hu; cases hu
    | bool b hu => rw [Tryd.underlying9] at hu; cases hu
    | str b hu hs => exact ⟨b, rfl⟩
  exact ⟨x0, x1, x2, x3, rfl, i0, i1, i2⟩
theorem flat_drop4 {rows : List (List AV)} (h : ∀ r ∈ rows, r.length = 4) (j : Nat) (hj : j < rows.length) : ∃ r tl, rows[j]? = some r ∧ rows.flatten.drop (4 * j) = r ++ tl := by
  induction rows generalizing j with
  | nil => simp at hj
  | cons a rows ih =>
    cases j with
    | zero => exact ⟨a, rows.flatten, rfl, by simp⟩
    | succ j =>
      obtain ⟨r, tl, q1, q2⟩ := ih (fun r hr => h r (by simp [hr])) j (by simpa using hj)
      refine ⟨r, tl, by simpa using q1, ?_⟩
      have ha := h a (by simp)
      rw [List.flatten_cons, show 4 * (j + 1) = a.length + 4 * j by omega, ← List.drop_drop, List.drop_left]
      exact q2
theorem IsSteps.ixa {x : AV} {rows : List (List AV)} (h : IsSteps x rows) (j : Nat) (hj : j < rows.length) (hj2 : j < 1000) : ∃ kind n loss body tl, ixaV 4 x (.int .i64 (j : Int)) = some (.rp (.int .i64 kind :: .int .i64 n :: .int .i64 loss :: .str body :: tl)) ∧ IntKind.i64.has kind ∧ IntKind.i64.has n ∧ IntKind.i64.has loss := by
  obtain ⟨h1, h2⟩ := h
  rcases h1 with ⟨rfl, rfl⟩ | rfl
  · simp at hj
  obtain ⟨r, tl, q1, q2⟩ := flat_drop4 (fun r hr => (h2 r hr).2) j hj
  obtain ⟨kind, n, loss, body, rfl, g1, g2, g3⟩ := st_of (h2 r (List.mem_of_getElem? q1)).1
  refine ⟨kind, n, loss, body, tl, ?_, g1, g2, g3⟩
  have h1 : idx rows.length (.int .i64 (j : Int)) = some j := by simp [idx]; omega
  simp only [ixaV, h1]
  rw [show j * 4 = 4 * j by omega, q2]
  rfl
theorem IsSteps.len {x : AV} {rows : List (List AV)} (h : IsSteps x rows) : lenV x = some (.int .i64 (rows.length : Nat)) := by
  obtain ⟨⟨rfl, rfl⟩ | rfl, _⟩ := h <;> rfl
theorem IsSteps.freeze {x : AV} {rows : List (List AV)} (h : IsSteps x rows) (n : Nat) (s : St) : Ab.freeze n s x = some (x, s) := by
  obtain ⟨⟨rfl, rfl⟩ | rfl, _⟩ := h <;> rfl
end Go.Proofs.YtochnineebgbgaaDoor
/- TwoComplete: one step of the first loop. No conditions. -/
set_option linter.unusedSimpArgs false
set_option linter.unusedVariables false
set_option maxRecDepth 100000
set_option maxHeartbeats 4000000
namespace Go.Proofs.YtochnineebgbgaaDoor
open Go Go.Ab
def cT (a b : Nat) : Ab.Obj := .cells 0 [.ptr a 0, .ptr b 0]
def cN (a b : Nat) : Ab.Obj := .cells 0 [.int .i64 ((a : Nat) : Int), .int .i64 ((b : Nat) : Int)]
def cS (kind n loss : Int) (body : List UInt8) : Ab.Obj := .cells 0 [.int .i64 kind, .int .i64 n, .int .i64 loss, .str body]
theorem cut4 (a b c d : AV) (tl : List AV) : Ab.cut (a :: b :: c :: d :: tl) 0 (some 4) = some (.agg [a, b, c, d]) := by simp [Ab.cut]
theorem stB_4_0_4 (s : St) (b z : Nat) (a0 a1 a2 a3 x0 x1 x2 x3 : AV) : stB s b 0 4 [x0, x1, x2, x3] (some (.cells z [a0, a1, a2, a3])) = some (.undef, s.upd b (.cells z [x0, x1, x2, x3])) := by simp [stB, storeL, fillL]
theorem and1 (n : Int) : ∃ b : Nat, b < 2 ∧ binV .and (.int .i64 n) (.int .i64 1) = some (.int .i64 (b : Nat)) := by
  refine ⟨(BitVec.ofInt 64 n &&& BitVec.ofInt 64 1).toNat, ?_, ?_⟩
  · rw [BitVec.toNat_and]
    exact Nat.lt_of_le_of_lt Nat.and_le_right (by decide)
  · show some (AV.int .i64 (IntKind.i64.wrap ((BitVec.ofInt 64 n &&& BitVec.ofInt 64 1).toNat : Int))) = _
    have : (BitVec.ofInt 64 n &&& BitVec.ofInt 64 1).toNat ≤ 1 := by
      rw [BitVec.toNat_and]
      exact Nat.le_trans Nat.and_le_right (by decide)
    rw [wrapI _ (by omega) (by omega)]
theorem Apart.updAt {s : St} {b : Nat} {o : Ab.Obj} {l1 l2 : List Part} (h : Apart s (l1 ++ cellPart b o :: l2)) (o' : Ab.Obj) : Apart (s.upd b o') (l1 ++ cellPart b o' :: l2) :=
  ((h.perm List.perm_middle).upd o').perm List.perm_middle.symm
/-- Two turns, the array of both, how many were put, how many were told. -/
def Tc (S : St) (W V ta oa ia tb ob ib T P To : Nat) (X : Ss) : Prop := Apart S [turnPart ta oa ia 40 W X.a, turnPart tb ob ib 40 V X.b, cellPart T (cT ta tb), cellPart P (cN X.p0 X.p1), cellPart To (cN X.t0 X.t1)]
structure Bnd (X : Ss) (j : Nat) : Prop where
  b1 : X.p0 ≤ 8 * j
  b2 : X.p1 ≤ 8 * j
  b3 : X.t0 ≤ 8 * j
  b4 : X.t1 ≤ 8 * j
theorem Bnd.mono {X : Ss} {j : Nat} (h : Bnd X j) : Bnd X (j + 1) := by
  obtain ⟨b1, b2, b3, b4⟩ := h
  exact ⟨by omega, by omega, by omega, by omega⟩
theorem hearK_le (lost : Nat → Bool) : ∀ (ps : List Fm) (i : Nat) (Y : Tn) (g : Nat) (Y' : Tn) (g' : Nat), hearK lost i ps (Y, g) = some (Y', g') → g ≤ g' ∧ g' ≤ g + ps.length := by
  intro ps
  induction ps with
  | nil => intro i Y g Y' g' h; simp only [hearK, Option.some.injEq, Prod.mk.injEq] at h; obtain ⟨_, rfl⟩ := h; exact ⟨Nat.le_refl _, Nat.le_refl _⟩
  | cons p ps ih =>
    intro i Y g Y' g' h
    simp only [hearK] at h
    split at h
    · have := ih _ _ _ _ _ h; simp only [List.length_cons]; omega
    · split at h
      · have := ih _ _ _ _ _ h; simp only [List.length_cons]; split at this <;> omega
      · cases h
theorem say_mono {W : Nat} (hW : W ≤ 7) {lost : Nat → Bool} {A B B' : Tn} {g g' : Nat} (h : hearK lost 0 (A.says W) (B, g) = some (B', g')) : g ≤ g' ∧ g' ≤ g + 8 := by
  have a := hearK_le _ _ _ _ _ _ _ h
  have b := says_le A W hW
  omega
def E14b (x : AV) (T P To : Nat) (i : Int) : Env := [.undef, .undef, x, .undef, .undef, .undef, .undef, .undef, .ptr T 0, .ptr P 0, .ptr To 0, .int .i64 i, .undef, .undef, .undef, .undef, .undef, .undef, .undef, .undef, .undef, .undef, .undef, .undef, .undef, .undef, .undef, .undef, .undef, .undef, .undef, .undef, .undef, .undef, .undef, .undef, .undef, .undef, .undef, .undef, .undef, .undef, .undef, .undef, .undef, .undef, .undef, .undef, .undef, .undef, .undef, .undef, .undef, .undef, .undef, .undef, .undef, .undef, .undef, .undef, .undef, .undef, .undef, .undef, .undef, .undef, .undef, .undef, .undef, .undef, .undef, .undef, .undef, .undef, .undef, .undef, .undef, .undef, .undef, .undef, .undef, .undef, .undef, .undef, .undef, .undef, .undef, .undef, .undef, .undef, .undef, .undef, .undef, .undef, .undef, .undef, .undef, .undef, .undef, .undef, .undef, .undef, .undef, .undef, .undef, .undef, .undef, .undef, .undef, .undef, .undef, .undef, .undef, .undef, .undef, .undef, .undef, .undef, .undef, .undef, .undef, .undef, .undef, .undef, .undef, .undef, .undef, .undef, .undef, .undef, .undef, .undef, .undef, .undef, .undef, .undef, .undef, .undef, .undef, .undef, .undef, .undef, .undef, .undef, .undef, .undef, .undef, .undef, .undef, .undef]
def Round14 (x : AV) (S : St) (W V ta oa ia tb ob ib T P To : Nat) (X : Ss) (j : Nat) : Prop :=
  ∃ e' S' X', evC tabGl (evO 999) 999 M14b1 (E14b x T P To (j : Nat)) S = some (.nrm, e', S') ∧ maskE M14b1l e' = E14b x T P To ((j + 1 : Nat) : Int) ∧ Keep2 W V X' ∧ Tc S' W V ta oa ia tb ob ib T P To X' ∧ Bnd X' (j + 1)

theorem put140 (x : AV) (rows : List (List AV)) (hx : IsSteps x rows) (j : Nat) (hj : j < rows.length) (hj2 : j < 60) (S : St) (W V : Nat) (hW : W ≤ 7) (hV : V ≤ 7) (ta oa ia tb ob ib T P To : Nat) (X : Ss) (hI : Keep2 W V X) (hb : Bnd X j) (H : Tc S W V ta oa ia tb ob ib T P To X) (n loss : Int) (body : List UInt8) (tl : List AV)
    (i1 : ixaV 4 x (.int .i64 (j : Int)) = some (.rp (.int .i64 0 :: .int .i64 n :: .int .i64 loss :: .str body :: tl))) (a1 : binV .and (.int .i64 n) (.int .i64 1) = some (.int .i64 0)) : Round14 x S W V ta oa ia tb ob ib T P To X j := by
  have l0 := hx.len
  have fx := hx.freeze
  have q1 : ((j : Int) < ((rows.length : Nat) : Int)) = True := eq_true (by omega)
  have q2 : ((j : Int) < 60) = True := eq_true (by omega)
  have w1 : IntKind.i64.wrap ((j : Int) + 1) = ((j + 1 : Nat) : Int) := (wrapI _ (by omega) (by omega)).trans (by omega)
  have i2 := cut4 (.int .i64 0) (.int .i64 n) (.int .i64 loss) (.str body) tl
  have k0 : ((0 : Int) == 0) = true := rfl
  have ix : ixpV 2 1 (.ptr T 0) (.int .i64 0) = some (.ptr T 0) := rfl
  have ip : ixpV 2 1 (.ptr P 0) (.int .i64 0) = some (.ptr P 0) := rfl
  have D1 : Apart (S.pl [cS 0 n loss body]) _ := H.new (cS 0 n loss body)
  have gT : (S.pl [cS 0 n loss body]).get T = some (cT ta tb) := (D1.get (by simp)).1
  unfold cT at gT
  have DD := D1.swap
  by_cases hl : X.a.L.length < 8
  · obtain ⟨S2, p1, p2, _⟩ := put_evT 997 x1 DD.head hl (by decide)
    have D2 := (DD.turnStep p1 (fun C hC => ⟨hC, trivial, trivial⟩) (T' := { X.a with L := X.a.L ++ [x1] }) p2).1
    have D3 := D2.swap
    have gc : S2.get S.next = some (cS 0 n loss body) := (D3.get (by simp)).1
    have gP : S2.get P = some (cN X.p0 X.p1) := (D3.get (by simp)).1
    have D4 := Apart.updAt (l1 := [turnPart ta oa ia 40 W { X.a with L := X.a.L ++ [x1] }, turnPart tb ob ib 40 V X.b, cellPart T (cT ta tb)]) (l2 := [cellPart To (cN X.t0 X.t1)]) D3.tail (cN (X.p0 + 1) X.p1)
    have w2 : IntKind.i64.wrap (((X.p0 : Nat) : Int) + 1) = ((X.p0 + 1 : Nat) : Int) := (wrapI _ (by omega) (by have := hb.b1; omega)).trans (by omega)
    have hX : X.put0 = { X with a := { X.a with L := X.a.L ++ [x1] }, p0 := X.p0 + 1 } := if_pos hl
    have p1' : evO 999 40 [.ptr ta 0, .str [(120 : UInt8)]] (S.pl [cS 0 n loss body]) = some (.int .i64 0, S2) := p1
    suffices hs : ∃ e', evC tabGl (evO 999) 999 M14b1 (E14b x T P To (j : Nat)) S = some (.nrm, e', S2.upd P (cN (X.p0 + 1) X.p1)) ∧ maskE M14b1l e' = E14b x T P To ((j + 1 : Nat) : Int) by
      obtain ⟨e', g1, g2⟩ := hs
      exact ⟨e', _, X.put0, g1, g2, hI.put0, hX ▸ D4, by rw [hX]; obtain ⟨b1, b2, b3, b4⟩ := hb; exact ⟨by simp only; omega, by simp only; omega, by simp only; omega, by simp only; omega⟩⟩
    unfold cS at gT gc p1'
    unfold cN at gP
    rw [show S = S.pl [] from rfl]
    simp only [M14b1, E14b, l0, fx, q1, q2, w1, w2, i1, i2, a1, k0, ix, ip, gT, gc, gP, p1', ev1_ixpV, loadR_rp, stB_4_0_4, qES0, qES1, qES2, env0, List.length_cons, List.length_nil, Nat.reduceAdd, Nat.reduceSub, List.replicate, List.cons_append, List.nil_append, opd, Env.put, Env.at, List.set_cons_zero, List.set_cons_succ, List.getD_cons_zero, List.getD_cons_succ, freezeL, resVs, oneOr, Option.map_some, Option.map_none, List.map_cons, List.map_nil, if_true, if_false, Bool.not_true, Bool.not_false, Bool.false_eq_true, reduceIte, decide_true, decide_false, Int.reduceLT, Int.reduceLE, Int.reduceGT, Int.reduceGE, Int.reduceEq, Int.reduceBEq, Int.reduceBNe, load_ptr, ldV_some, cellAt_cells, List.getElem?_cons_zero, List.getElem?_cons_succ, store_ptr, stO_some, setAt_0, setAt_1, setAt_2, setAt_3, setAt_4, setAt_5, setAt_6, setAt_7, setAt_8, setAt_9, setAt_10, setAt_11, setAt_12, cells_int, cells_bool, cells_str, cells_nils, cells_nilp, cells_ptr, cells_sl, cells_u8, cells_u16, cells_agg, get_upd_is, Option.isSome_some, upd_upd, ev1_nchkV, ev1_faV, nchkV_ptr, faV_ptr, ev1_extV, extV_tup, eqptr_nil, eqptr_ptr, Nat.zero_add, Nat.add_zero, qPL0, qPL1, qPL2, qPL3, qPL4, qPL5, beq_self_eq_true, qED0, qED1, placeR]
    exact ⟨_, rfl, rfl⟩
  · have p1 := putF_evT 997 x1 DD.head (by omega) (by decide)
    have hX : X.put0 = X := if_neg hl
    have p1' : evO 999 40 [.ptr ta 0, .str [(120 : UInt8)]] (S.pl [cS 0 n loss body]) = some (.int .i64 3, S.pl [cS 0 n loss body]) := p1
    suffices hs : ∃ e', evC tabGl (evO 999) 999 M14b1 (E14b x T P To (j : Nat)) S = some (.nrm, e', S.pl [cS 0 n loss body]) ∧ maskE M14b1l e' = E14b x T P To ((j + 1 : Nat) : Int) by
      obtain ⟨e', g1, g2⟩ := hs
      exact ⟨e', _, X, g1, g2, hI, D1.tail, hb.mono⟩
    have k3 : ((3 : Int) == 0) = false := rfl
    unfold cS at gT p1' ⊢
    rw [show S = S.pl [] from rfl]
    simp only [M14b1, E14b, l0, fx, q1, q2, w1, i1, i2, a1, k0, k3, ix, ip, gT, p1', ev1_ixpV, loadR_rp, stB_4_0_4, qES0, qES1, qES2, env0, List.length_cons, List.length_nil, Nat.reduceAdd, Nat.reduceSub, List.replicate, List.cons_append, List.nil_append, opd, Env.put, Env.at, List.set_cons_zero, List.set_cons_succ, List.getD_cons_zero, List.getD_cons_succ, freezeL, resVs, oneOr, Option.map_some, Option.map_none, List.map_cons, List.map_nil, if_true, if_false, Bool.not_true, Bool.not_false, Bool.false_eq_true, reduceIte, decide_true, decide_false, Int.reduceLT, Int.reduceLE, Int.reduceGT, Int.reduceGE, Int.reduceEq, Int.reduceBEq, Int.reduceBNe, load_ptr, ldV_some, cellAt_cells, List.getElem?_cons_zero, List.getElem?_cons_succ, store_ptr, stO_some, setAt_0, setAt_1, setAt_2, setAt_3, setAt_4, setAt_5, setAt_6, setAt_7, setAt_8, setAt_9, setAt_10, setAt_11, setAt_12, cells_int, cells_bool, cells_str, cells_nils, cells_nilp, cells_ptr, cells_sl, cells_u8, cells_u16, cells_agg, get_upd_is, Option.isSome_some, upd_upd, ev1_nchkV, ev1_faV, nchkV_ptr, faV_ptr, ev1_extV, extV_tup, eqptr_nil, eqptr_ptr, Nat.zero_add, Nat.add_zero, qPL0, qPL1, qPL2, qPL3, qPL4, qPL5, beq_self_eq_true, qED0, qED1, placeR]
    exact ⟨_, rfl, rfl⟩

theorem put141 (x : AV) (rows : List (List AV)) (hx : IsSteps x rows) (j : Nat) (hj : j < rows.length) (hj2 : j < 60) (S : St) (W V : Nat) (hW : W ≤ 7) (hV : V ≤ 7) (ta oa ia tb ob ib T P To : Nat) (X : Ss) (hI : Keep2 W V X) (hb : Bnd X j) (H : Tc S W V ta oa ia tb ob ib T P To X) (n loss : Int) (body : List UInt8) (tl : List AV)
    (i1 : ixaV 4 x (.int .i64 (j : Int)) = some (.rp (.int .i64 0 :: .int .i64 n :: .int .i64 loss :: .str body :: tl))) (a1 : binV .and (.int .i64 n) (.int .i64 1) = some (.int .i64 1)) : Round14 x S W V ta oa ia tb ob ib T P To X j := by
  have l0 := hx.len
  have fx := hx.freeze
  have q1 : ((j : Int) < ((rows.length : Nat) : Int)) = True := eq_true (by omega)
  have q2 : ((j : Int) < 60) = True := eq_true (by omega)
  have w1 : IntKind.i64.wrap ((j : Int) + 1) = ((j + 1 : Nat) : Int) := (wrapI _ (by omega) (by omega)).trans (by omega)
  have i2 := cut4 (.int .i64 0) (.int .i64 n) (.int .i64 loss) (.str body) tl
  have k0 : ((0 : Int) == 0) = true := rfl
  have ix : ixpV 2 1 (.ptr T 0) (.int .i64 1) = some (.ptr T 1) := rfl
  have ip : ixpV 2 1 (.ptr P 0) (.int .i64 1) = some (.ptr P 1) := rfl
  have D1 : Apart (S.pl [cS 0 n loss body]) _ := H.new (cS 0 n loss body)
  have gT : (S.pl [cS 0 n loss body]).get T = some (cT ta tb) := (D1.get (by simp)).1
  unfold cT at gT
  have DD := D1.third
  by_cases hl : X.b.L.length < 8
  · obtain ⟨S2, p1, p2, _⟩ := put_evT 997 x1 DD.head hl (by decide)
    have D2 := (DD.turnStep p1 (fun C hC => ⟨hC, trivial, trivial⟩) (T' := { X.b with L := X.b.L ++ [x1] }) p2).1
    have D3 := D2.third'
    have gc : S2.get S.next = some (cS 0 n loss body) := (D3.get (by simp)).1
    have gP : S2.get P = some (cN X.p0 X.p1) := (D3.get (by simp)).1
    have D4 := Apart.updAt (l1 := [turnPart ta oa ia 40 W X.a, turnPart tb ob ib 40 V { X.b with L := X.b.L ++ [x1] }, cellPart T (cT ta tb)]) (l2 := [cellPart To (cN X.t0 X.t1)]) D3.tail (cN X.p0 (X.p1 + 1))
    have w2 : IntKind.i64.wrap (((X.p1 : Nat) : Int) + 1) = ((X.p1 + 1 : Nat) : Int) := (wrapI _ (by omega) (by have := hb.b2; omega)).trans (by omega)
    have hX : X.put1 = { X with b := { X.b with L := X.b.L ++ [x1] }, p1 := X.p1 + 1 } := if_pos hl
    have p1' : evO 999 40 [.ptr tb 0, .str [(120 : UInt8)]] (S.pl [cS 0 n loss body]) = some (.int .i64 0, S2) := p1
    suffices hs : ∃ e', evC tabGl (evO 999) 999 M14b1 (E14b x T P To (j : Nat)) S = some (.nrm, e', S2.upd P (cN X.p0 (X.p1 + 1))) ∧ maskE M14b1l e' = E14b x T P To ((j + 1 : Nat) : Int) by
      obtain ⟨e', g1, g2⟩ := hs
      exact ⟨e', _, X.put1, g1, g2, hI.put1, hX ▸ D4, by rw [hX]; obtain ⟨b1, b2, b3, b4⟩ := hb; exact ⟨by simp only; omega, by simp only; omega, by simp only; omega, by simp only; omega⟩⟩
    unfold cS at gT gc p1'
    unfold cN at gP
    rw [show S = S.pl [] from rfl]
    simp only [M14b1, E14b, l0, fx, q1, q2, w1, w2, i1, i2, a1, k0, ix, ip, gT, gc, gP, p1', ev1_ixpV, loadR_rp, stB_4_0_4, qES0, qES1, qES2, env0, List.length_cons, List.length_nil, Nat.reduceAdd, Nat.reduceSub, List.replicate, List.cons_append, List.nil_append, opd, Env.put, Env.at, List.set_cons_zero, List.set_cons_succ, List.getD_cons_zero, List.getD_cons_succ, freezeL, resVs, oneOr, Option.map_some, Option.map_none, List.map_cons, List.map_nil, if_true, if_false, Bool.not_true, Bool.not_false, Bool.false_eq_true, reduceIte, decide_true, decide_false, Int.reduceLT, Int.reduceLE, Int.reduceGT, Int.reduceGE, Int.reduceEq, Int.reduceBEq, Int.reduceBNe, load_ptr, ldV_some, cellAt_cells, List.getElem?_cons_zero, List.getElem?_cons_succ, store_ptr, stO_some, setAt_0, setAt_1, setAt_2, setAt_3, setAt_4, setAt_5, setAt_6, setAt_7, setAt_8, setAt_9, setAt_10, setAt_11, setAt_12, cells_int, cells_bool, cells_str, cells_nils, cells_nilp, cells_ptr, cells_sl, cells_u8, cells_u16, cells_agg, get_upd_is, Option.isSome_some, upd_upd, ev1_nchkV, ev1_faV, nchkV_ptr, faV_ptr, ev1_extV, extV_tup, eqptr_nil, eqptr_ptr, Nat.zero_add, Nat.add_zero, qPL0, qPL1, qPL2, qPL3, qPL4, qPL5, beq_self_eq_true, qED0, qED1, placeR]
    exact ⟨_, rfl, rfl⟩
  · have p1 := putF_evT 997 x1 DD.head (by omega) (by decide)
    have hX : X.put1 = X := if_neg hl
    have p1' : evO 999 40 [.ptr tb 0, .str [(120 : UInt8)]] (S.pl [cS 0 n loss body]) = some (.int .i64 3, S.pl [cS 0 n loss body]) := p1
    suffices hs : ∃ e', evC tabGl (evO 999) 999 M14b1 (E14b x T P To (j : Nat)) S = some (.nrm, e', S.pl [cS 0 n loss body]) ∧ maskE M14b1l e' = E14b x T P To ((j + 1 : Nat) : Int) by
      obtain ⟨e', g1, g2⟩ := hs
      exact ⟨e', _, X, g1, g2, hI, D1.tail, hb.mono⟩
    have k3 : ((3 : Int) == 0) = false := rfl
    unfold cS at gT p1' ⊢
    rw [show S = S.pl [] from rfl]
    simp only [M14b1, E14b, l0, fx, q1, q2, w1, i1, i2, a1, k0, k3, ix, ip, gT, p1', ev1_ixpV, loadR_rp, stB_4_0_4, qES0, qES1, qES2, env0, List.length_cons, List.length_nil, Nat.reduceAdd, Nat.reduceSub, List.replicate, List.cons_append, List.nil_append, opd, Env.put, Env.at, List.set_cons_zero, List.set_cons_succ, List.getD_cons_zero, List.getD_cons_succ, freezeL, resVs, oneOr, Option.map_some, Option.map_none, List.map_cons, List.map_nil, if_true, if_false, Bool.not_true, Bool.not_false, Bool.false_eq_true, reduceIte, decide_true, decide_false, Int.reduceLT, Int.reduceLE, Int.reduceGT, Int.reduceGE, Int.reduceEq, Int.reduceBEq, Int.reduceBNe, load_ptr, ldV_some, cellAt_cells, List.getElem?_cons_zero, List.getElem?_cons_succ, store_ptr, stO_some, setAt_0, setAt_1, setAt_2, setAt_3, setAt_4, setAt_5, setAt_6, setAt_7, setAt_8, setAt_9, setAt_10, setAt_11, setAt_12, cells_int, cells_bool, cells_str, cells_nils, cells_nilp, cells_ptr, cells_sl, cells_u8, cells_u16, cells_agg, get_upd_is, Option.isSome_some, upd_upd, ev1_nchkV, ev1_faV, nchkV_ptr, faV_ptr, ev1_extV, extV_tup, eqptr_nil, eqptr_ptr, Nat.zero_add, Nat.add_zero, qPL0, qPL1, qPL2, qPL3, qPL4, qPL5, beq_self_eq_true, qED0, qED1, placeR]
    exact ⟨_, rfl, rfl⟩

theorem say140 (x : AV) (rows : List (List AV)) (hx : IsSteps x rows) (j : Nat) (hj : j < rows.length) (hj2 : j < 60) (S : St) (W V : Nat) (hW : W ≤ 7) (hV : V ≤ 7) (ta oa ia tb ob ib T P To : Nat) (X : Ss) (hI : Keep2 W V X) (hb : Bnd X j) (H : Tc S W V ta oa ia tb ob ib T P To X) (n loss : Int) (body : List UInt8) (tl : List AV)
    (i1 : ixaV 4 x (.int .i64 (j : Int)) = some (.rp (.int .i64 1 :: .int .i64 n :: .int .i64 loss :: .str body :: tl))) (a1 : binV .and (.int .i64 n) (.int .i64 1) = some (.int .i64 0)) : Round14 x S W V ta oa ia tb ob ib T P To X j := by
  have l0 := hx.len
  have fx := hx.freeze
  have q1 : ((j : Int) < ((rows.length : Nat) : Int)) = True := eq_true (by omega)
  have q2 : ((j : Int) < 60) = True := eq_true (by omega)
  have w1 : IntKind.i64.wrap ((j : Int) + 1) = ((j + 1 : Nat) : Int) := (wrapI _ (by omega) (by omega)).trans (by omega)
  have i2 := cut4 (.int .i64 1) (.int .i64 n) (.int .i64 loss) (.str body) tl
  have k0 : ((1 : Int) == 0) = false := rfl
  have k1 : ((1 : Int) == 1) = true := rfl
  have s1 : IntKind.i64.wrap ((1 : Int) - 0) = 1 := rfl
  have ix0 : ixpV 2 1 (.ptr T 0) (.int .i64 0) = some (.ptr T 0) := rfl
  have ix1 : ixpV 2 1 (.ptr T 0) (.int .i64 1) = some (.ptr T 1) := rfl
  have ip : ixpV 2 1 (.ptr To 0) (.int .i64 1) = some (.ptr To 1) := rfl
  have D1 : Apart (S.pl [cS 1 n loss body]) _ := H.new (cS 1 n loss body)
  have D0 : Apart (S.pl [cS 1 n loss body]) [turnPart ta oa ia 40 W X.a, turnPart tb ob ib 40 V X.b, cellPart S.next (cS 1 n loss body), cellPart T (cT ta tb), cellPart P (cN X.p0 X.p1), cellPart To (cN X.t0 X.t1)] := D1.third'
  have gT : (S.pl [cS 1 n loss body]).get T = some (cT ta tb) := (D1.get (by simp)).1
  have gN : (S.pl [cS 1 n loss body]).get To = some (cN X.t0 X.t1) := (D1.get (by simp)).1
  obtain ⟨B2, t, e1, e2, e3⟩ := hI.say0 hW hV (lostB loss)
  obtain ⟨S2, p1, D2⟩ := say_ev loss W V 40 _ ta oa ia tb ob ib X.t1 t X.a X.b B2 _ D0 (hI.ok hW hV).1 hW (Or.inr hI.rb) e1
  have D3 : Apart S2 [turnPart ta oa ia 40 W (X.a.went W), turnPart tb ob ib 40 V (B2), cellPart S.next (cS 1 n loss body), cellPart T (cT ta tb), cellPart P (cN X.p0 X.p1), cellPart To (cN X.t0 X.t1)] := D2
  have le := (say_mono hW e1)
  have gc2 : S2.get S.next = some (cS 1 n loss body) := (D3.get (by simp)).1
  have gT2 : S2.get T = some (cT ta tb) := (D3.get (by simp)).1
  have gN2 : S2.get To = some (cN X.t0 X.t1) := (D3.get (by simp)).1
  have D4 := Apart.updAt (l1 := [turnPart ta oa ia 40 W (X.a.went W), turnPart tb ob ib 40 V (B2), cellPart S.next (cS 1 n loss body), cellPart T (cT ta tb), cellPart P (cN X.p0 X.p1)]) (l2 := []) D3 (cN X.t0 t)
  have D5 : Apart _ [cellPart S.next (cS 1 n loss body), turnPart ta oa ia 40 W (X.a.went W), turnPart tb ob ib 40 V (B2), cellPart T (cT ta tb), cellPart P (cN X.p0 X.p1), cellPart To (cN X.t0 t)] := D4.third
  have hbb := hb.b4
  have w2 : IntKind.i64.wrap (((X.t1 : Nat) : Int) + ((t - X.t1 : Nat) : Int)) = ((t : Nat) : Int) := (wrapI _ (by omega) (by omega)).trans (by omega)
  suffices hs : ∃ e', evC tabGl (evO 999) 999 M14b1 (E14b x T P To (j : Nat)) S = some (.nrm, e', S2.upd To (cN X.t0 t)) ∧ maskE M14b1l e' = E14b x T P To ((j + 1 : Nat) : Int) by
    obtain ⟨e', g1, g2⟩ := hs
    exact ⟨e', _, { X with a := X.a.went W, b := B2, t1 := t }, g1, g2, e2, D5.tail, by obtain ⟨b1, b2, b3, b4⟩ := hb; exact ⟨by simp only; omega, by simp only; omega, by simp only; omega, by simp only; omega⟩⟩
  unfold cT at gT gT2
  unfold cN at gN gN2
  unfold cS at gT gN gc2 p1
  rw [show S = S.pl [] from rfl]
  simp only [M14b1, E14b, l0, fx, q1, q2, w1, i1, i2, a1, k0, k1, s1, ix0, ix1, ip, gT, gN, gc2, gT2, gN2, p1, ev1_ixpV, loadR_rp, stB_4_0_4, qES0, qES1, qES2, env0, List.length_cons, List.length_nil, Nat.reduceAdd, Nat.reduceSub, List.replicate, List.cons_append, List.nil_append, opd, Env.put, Env.at, List.set_cons_zero, List.set_cons_succ, List.getD_cons_zero, List.getD_cons_succ, freezeL, resVs, oneOr, Option.map_some, Option.map_none, List.map_cons, List.map_nil, if_true, if_false, Bool.not_true, Bool.not_false, Bool.false_eq_true, reduceIte, decide_true, decide_false, Int.reduceLT, Int.reduceLE, Int.reduceGT, Int.reduceGE, Int.reduceEq, Int.reduceBEq, Int.reduceBNe, load_ptr, ldV_some, cellAt_cells, List.getElem?_cons_zero, List.getElem?_cons_succ, store_ptr, stO_some, setAt_0, setAt_1, setAt_2, setAt_3, setAt_4, setAt_5, setAt_6, setAt_7, setAt_8, setAt_9, setAt_10, setAt_11, setAt_12, cells_int, cells_bool, cells_str, cells_nils, cells_nilp, cells_ptr, cells_sl, cells_u8, cells_u16, cells_agg, get_upd_is, Option.isSome_some, upd_upd, ev1_nchkV, ev1_faV, nchkV_ptr, faV_ptr, ev1_extV, extV_tup, eqptr_nil, eqptr_ptr, Nat.zero_add, Nat.add_zero, qPL0, qPL1, qPL2, qPL3, qPL4, qPL5, beq_self_eq_true, qED0, qED1, placeR]
  rw [drawR_ok]; case h => simp (config := {decide := true}) [calm, calmPair, calmTwo, List.range, List.range.loop, sameO_refl, plg0, gc2, gT, gT2, gN, gN2]
  simp only [w1, w2, gN2, cN, qES0, qES1, qES2, env0, List.length_cons, List.length_nil, Nat.reduceAdd, Nat.reduceSub, List.replicate, List.cons_append, List.nil_append, opd, Env.put, Env.at, List.set_cons_zero, List.set_cons_succ, List.getD_cons_zero, List.getD_cons_succ, freezeL, resVs, oneOr, Option.map_some, Option.map_none, List.map_cons, List.map_nil, if_true, if_false, Bool.not_true, Bool.not_false, Bool.false_eq_true, reduceIte, decide_true, decide_false, Int.reduceLT, Int.reduceLE, Int.reduceGT, Int.reduceGE, Int.reduceEq, Int.reduceBEq, Int.reduceBNe, load_ptr, ldV_some, cellAt_cells, List.getElem?_cons_zero, List.getElem?_cons_succ, store_ptr, stO_some, setAt_0, setAt_1, setAt_2, setAt_3, setAt_4, setAt_5, setAt_6, setAt_7, setAt_8, setAt_9, setAt_10, setAt_11, setAt_12, cells_int, cells_bool, cells_str, cells_nils, cells_nilp, cells_ptr, cells_sl, cells_u8, cells_u16, cells_agg, get_upd_is, Option.isSome_some, upd_upd, ev1_nchkV, ev1_faV, nchkV_ptr, faV_ptr, ev1_extV, extV_tup, eqptr_nil, eqptr_ptr, Nat.zero_add, Nat.add_zero, qPL0, qPL1, qPL2, qPL3, qPL4, qPL5, beq_self_eq_true, qED0, qED1, placeR]
  exact ⟨_, rfl, rfl⟩

theorem say141 (x : AV) (rows : List (List AV)) (hx : IsSteps x rows) (j : Nat) (hj : j < rows.length) (hj2 : j < 60) (S : St) (W V : Nat) (hW : W ≤ 7) (hV : V ≤ 7) (ta oa ia tb ob ib T P To : Nat) (X : Ss) (hI : Keep2 W V X) (hb : Bnd X j) (H : Tc S W V ta oa ia tb ob ib T P To X) (n loss : Int) (body : List UInt8) (tl : List AV)
    (i1 : ixaV 4 x (.int .i64 (j : Int)) = some (.rp (.int .i64 1 :: .int .i64 n :: .int .i64 loss :: .str body :: tl))) (a1 : binV .and (.int .i64 n) (.int .i64 1) = some (.int .i64 1)) : Round14 x S W V ta oa ia tb ob ib T P To X j := by
  have l0 := hx.len
  have fx := hx.freeze
  have q1 : ((j : Int) < ((rows.length : Nat) : Int)) = True := eq_true (by omega)
  have q2 : ((j : Int) < 60) = True := eq_true (by omega)
  have w1 : IntKind.i64.wrap ((j : Int) + 1) = ((j + 1 : Nat) : Int) := (wrapI _ (by omega) (by omega)).trans (by omega)
  have i2 := cut4 (.int .i64 1) (.int .i64 n) (.int .i64 loss) (.str body) tl
  have k0 : ((1 : Int) == 0) = false := rfl
  have k1 : ((1 : Int) == 1) = true := rfl
  have s1 : IntKind.i64.wrap ((1 : Int) - 1) = 0 := rfl
  have ix0 : ixpV 2 1 (.ptr T 0) (.int .i64 0) = some (.ptr T 0) := rfl
  have ix1 : ixpV 2 1 (.ptr T 0) (.int .i64 1) = some (.ptr T 1) := rfl
  have ip : ixpV 2 1 (.ptr To 0) (.int .i64 0) = some (.ptr To 0) := rfl
  have D1 : Apart (S.pl [cS 1 n loss body]) _ := H.new (cS 1 n loss body)
  have D0 : Apart (S.pl [cS 1 n loss body]) [turnPart ta oa ia 40 W X.a, turnPart tb ob ib 40 V X.b, cellPart S.next (cS 1 n loss body), cellPart T (cT ta tb), cellPart P (cN X.p0 X.p1), cellPart To (cN X.t0 X.t1)] := D1.third'
  have gT : (S.pl [cS 1 n loss body]).get T = some (cT ta tb) := (D1.get (by simp)).1
  have gN : (S.pl [cS 1 n loss body]).get To = some (cN X.t0 X.t1) := (D1.get (by simp)).1
  obtain ⟨B2, t, e1, e2, e3⟩ := hI.say1 hW hV (lostB loss)
  obtain ⟨S2, p1, D2⟩ := say_ev loss V W 40 _ tb ob ib ta oa ia X.t0 t X.b X.a B2 _ D0.swap (hI.ok hW hV).2 hV (Or.inl hI.ra) e1
  have D3 : Apart S2 [turnPart ta oa ia 40 W (B2), turnPart tb ob ib 40 V (X.b.went V), cellPart S.next (cS 1 n loss body), cellPart T (cT ta tb), cellPart P (cN X.p0 X.p1), cellPart To (cN X.t0 X.t1)] := D2.swap
  have le := (say_mono hV e1)
  have gc2 : S2.get S.next = some (cS 1 n loss body) := (D3.get (by simp)).1
  have gT2 : S2.get T = some (cT ta tb) := (D3.get (by simp)).1
  have gN2 : S2.get To = some (cN X.t0 X.t1) := (D3.get (by simp)).1
  have D4 := Apart.updAt (l1 := [turnPart ta oa ia 40 W (B2), turnPart tb ob ib 40 V (X.b.went V), cellPart S.next (cS 1 n loss body), cellPart T (cT ta tb), cellPart P (cN X.p0 X.p1)]) (l2 := []) D3 (cN t X.t1)
  have D5 : Apart _ [cellPart S.next (cS 1 n loss body), turnPart ta oa ia 40 W (B2), turnPart tb ob ib 40 V (X.b.went V), cellPart T (cT ta tb), cellPart P (cN X.p0 X.p1), cellPart To (cN t X.t1)] := D4.third
  have hbb := hb.b3
  have w2 : IntKind.i64.wrap (((X.t0 : Nat) : Int) + ((t - X.t0 : Nat) : Int)) = ((t : Nat) : Int) := (wrapI _ (by omega) (by omega)).trans (by omega)
  suffices hs : ∃ e', evC tabGl (evO 999) 999 M14b1 (E14b x T P To (j : Nat)) S = some (.nrm, e', S2.upd To (cN t X.t1)) ∧ maskE M14b1l e' = E14b x T P To ((j + 1 : Nat) : Int) by
    obtain ⟨e', g1, g2⟩ := hs
    exact ⟨e', _, { X with a := B2, b := X.b.went V, t0 := t }, g1, g2, e2, D5.tail, by obtain ⟨b1, b2, b3, b4⟩ := hb; exact ⟨by simp only; omega, by simp only; omega, by simp only; omega, by simp only; omega⟩⟩
  unfold cT at gT gT2
  unfold cN at gN gN2
  unfold cS at gT gN gc2 p1
  rw [show S = S.pl [] from rfl]
  simp only [M14b1, E14b, l0, fx, q1, q2, w1, i1, i2, a1, k0, k1, s1, ix0, ix1, ip, gT, gN, gc2, gT2, gN2, p1, ev1_ixpV, loadR_rp, stB_4_0_4, qES0, qES1, qES2, env0, List.length_cons, List.length_nil, Nat.reduceAdd, Nat.reduceSub, List.replicate, List.cons_append, List.nil_append, opd, Env.put, Env.at, List.set_cons_zero, List.set_cons_succ, List.getD_cons_zero, List.getD_cons_succ, freezeL, resVs, oneOr, Option.map_some, Option.map_none, List.map_cons, List.map_nil, if_true, if_false, Bool.not_true, Bool.not_false, Bool.false_eq_true, reduceIte, decide_true, decide_false, Int.reduceLT, Int.reduceLE, Int.reduceGT, Int.reduceGE, Int.reduceEq, Int.reduceBEq, Int.reduceBNe, load_ptr, ldV_some, cellAt_cells, List.getElem?_cons_zero, List.getElem?_cons_succ, store_ptr, stO_some, setAt_0, setAt_1, setAt_2, setAt_3, setAt_4, setAt_5, setAt_6, setAt_7, setAt_8, setAt_9, setAt_10, setAt_11, setAt_12, cells_int, cells_bool, cells_str, cells_nils, cells_nilp, cells_ptr, cells_sl, cells_u8, cells_u16, cells_agg, get_upd_is, Option.isSome_some, upd_upd, ev1_nchkV, ev1_faV, nchkV_ptr, faV_ptr, ev1_extV, extV_tup, eqptr_nil, eqptr_ptr, Nat.zero_add, Nat.add_zero, qPL0, qPL1, qPL2, qPL3, qPL4, qPL5, beq_self_eq_true, qED0, qED1, placeR]
  rw [drawR_ok]; case h => simp (config := {decide := true}) [calm, calmPair, calmTwo, List.range, List.range.loop, sameO_refl, plg0, gc2, gT, gT2, gN, gN2]
  simp only [w1, w2, gN2, cN, qES0, qES1, qES2, env0, List.length_cons, List.length_nil, Nat.reduceAdd, Nat.reduceSub, List.replicate, List.cons_append, List.nil_append, opd, Env.put, Env.at, List.set_cons_zero, List.set_cons_succ, List.getD_cons_zero, List.getD_cons_succ, freezeL, resVs, oneOr, Option.map_some, Option.map_none, List.map_cons, List.map_nil, if_true, if_false, Bool.not_true, Bool.not_false, Bool.false_eq_true, reduceIte, decide_true, decide_false, Int.reduceLT, Int.reduceLE, Int.reduceGT, Int.reduceGE, Int.reduceEq, Int.reduceBEq, Int.reduceBNe, load_ptr, ldV_some, cellAt_cells, List.getElem?_cons_zero, List.getElem?_cons_succ, store_ptr, stO_some, setAt_0, setAt_1, setAt_2, setAt_3, setAt_4, setAt_5, setAt_6, setAt_7, setAt_8, setAt_9, setAt_10, setAt_11, setAt_12, cells_int, cells_bool, cells_str, cells_nils, cells_nilp, cells_ptr, cells_sl, cells_u8, cells_u16, cells_agg, get_upd_is, Option.isSome_some, upd_upd, ev1_nchkV, ev1_faV, nchkV_ptr, faV_ptr, ev1_extV, extV_tup, eqptr_nil, eqptr_ptr, Nat.zero_add, Nat.add_zero, qPL0, qPL1, qPL2, qPL3, qPL4, qPL5, beq_self_eq_true, qED0, qED1, placeR]
  exact ⟨_, rfl, rfl⟩

theorem late14 (x : AV) (rows : List (List AV)) (hx : IsSteps x rows) (j : Nat) (hj : j < rows.length) (hj2 : j < 60) (S : St) (W V : Nat) (hW : W ≤ 7) (hV : V ≤ 7) (ta oa ia tb ob ib T P To : Nat) (X : Ss) (hI : Keep2 W V X) (hb : Bnd X j) (H : Tc S W V ta oa ia tb ob ib T P To X) (kind n loss : Int) (body : List UInt8) (tl : List AV)
    (i1 : ixaV 4 x (.int .i64 (j : Int)) = some (.rp (.int .i64 kind :: .int .i64 n :: .int .i64 loss :: .str body :: tl))) (k0 : (kind == 0) = false) (k1 : (kind == 1) = false) : Round14 x S W V ta oa ia tb ob ib T P To X j := by
  have l0 := hx.len
  have fx := hx.freeze
  have q1 : ((j : Int) < ((rows.length : Nat) : Int)) = True := eq_true (by omega)
  have q2 : ((j : Int) < 60) = True := eq_true (by omega)
  have w1 : IntKind.i64.wrap ((j : Int) + 1) = ((j + 1 : Nat) : Int) := (wrapI _ (by omega) (by omega)).trans (by omega)
  have i2 := cut4 (.int .i64 kind) (.int .i64 n) (.int .i64 loss) (.str body) tl
  have ix0 : ixpV 2 1 (.ptr T 0) (.int .i64 0) = some (.ptr T 0) := rfl
  have ix1 : ixpV 2 1 (.ptr T 0) (.int .i64 1) = some (.ptr T 1) := rfl
  have D1 : Apart (S.pl [cS kind n loss body]) _ := H.new (cS kind n loss body)
  have D0 : Apart (S.pl [cS kind n loss body]) [turnPart ta oa ia 40 W X.a, turnPart tb ob ib 40 V X.b, cellPart S.next (cS kind n loss body), cellPart T (cT ta tb), cellPart P (cN X.p0 X.p1), cellPart To (cN X.t0 X.t1)] := D1.third'
  have gT : (S.pl [cS kind n loss body]).get T = some (cT ta tb) := (D1.get (by simp)).1
  have m0 := mine_evT 998 D0.head
  have m1 := mine_evT 998 D0.tail.head
  unfold cT at gT
  by_cases hm : X.a.mine = false ∧ X.b.mine = false
  · obtain ⟨S2, p1, p2, _⟩ := late_evT 998 D0.head (.inl hI.ra)
    have D2 := (D0.turnStep p1 (fun C hC => ⟨hC, trivial⟩) (T' := X.a.late) p2).1
    rw [hm.1] at m0
    rw [hm.2] at m1
    suffices hs : ∃ e', evC tabGl (evO 999) 999 M14b1 (E14b x T P To (j : Nat)) S = some (.nrm, e', S2) ∧ maskE M14b1l e' = E14b x T P To ((j + 1 : Nat) : Int) by
      obtain ⟨e', g1, g2⟩ := hs
      exact ⟨e', _, X.late, g1, g2, hI.late, D2.third.tail, by obtain ⟨b1, b2, b3, b4⟩ := hb; exact ⟨by simp only [Ss.late]; omega, by simp only [Ss.late]; omega, by simp only [Ss.late]; omega, by simp only [Ss.late]; omega⟩⟩
    unfold cS at gT m0 m1 p1
    rw [show S = S.pl [] from rfl]
    simp only [M14b1, E14b, l0, fx, q1, q2, w1, i1, i2, k0, k1, ix0, ix1, gT, m0, m1, p1, ev1_ixpV, loadR_rp, stB_4_0_4, qES0, qES1, qES2, env0, List.length_cons, List.length_nil, Nat.reduceAdd, Nat.reduceSub, List.replicate, List.cons_append, List.nil_append, opd, Env.put, Env.at, List.set_cons_zero, List.set_cons_succ, List.getD_cons_zero, List.getD_cons_succ, freezeL, resVs, oneOr, Option.map_some, Option.map_none, List.map_cons, List.map_nil, if_true, if_false, Bool.not_true, Bool.not_false, Bool.false_eq_true, reduceIte, decide_true, decide_false, Int.reduceLT, Int.reduceLE, Int.reduceGT, Int.reduceGE, Int.reduceEq, Int.reduceBEq, Int.reduceBNe, load_ptr, ldV_some, cellAt_cells, List.getElem?_cons_zero, List.getElem?_cons_succ, store_ptr, stO_some, setAt_0, setAt_1, setAt_2, setAt_3, setAt_4, setAt_5, setAt_6, setAt_7, setAt_8, setAt_9, setAt_10, setAt_11, setAt_12, cells_int, cells_bool, cells_str, cells_nils, cells_nilp, cells_ptr, cells_sl, cells_u8, cells_u16, cells_agg, get_upd_is, Option.isSome_some, upd_upd, ev1_nchkV, ev1_faV, nchkV_ptr, faV_ptr, ev1_extV, extV_tup, eqptr_nil, eqptr_ptr, Nat.zero_add, Nat.add_zero, qPL0, qPL1, qPL2, qPL3, qPL4, qPL5, beq_self_eq_true, qED0, qED1, placeR]
    exact ⟨_, rfl, rfl⟩
  · suffices hs : ∃ e', evC tabGl (evO 999) 999 M14b1 (E14b x T P To (j : Nat)) S = some (.nrm, e', S.pl [cS kind n loss body]) ∧ maskE M14b1l e' = E14b x T P To ((j + 1 : Nat) : Int) by
      obtain ⟨e', g1, g2⟩ := hs
      exact ⟨e', _, X, g1, g2, hI, D1.tail, hb.mono⟩
    unfold cS at gT m0 m1 ⊢
    rw [show S = S.pl [] from rfl]
    cases ha : X.a.mine
    · cases hb' : X.b.mine
      · exact absurd ⟨ha, hb'⟩ hm
      · rw [ha] at m0
        rw [hb'] at m1
        simp only [M14b1, E14b, l0, fx, q1, q2, w1, i1, i2, k0, k1, ix0, ix1, gT, m0, m1, ev1_ixpV, loadR_rp, stB_4_0_4, qES0, qES1, qES2, env0, List.length_cons, List.length_nil, Nat.reduceAdd, Nat.reduceSub, List.replicate, List.cons_append, List.nil_append, opd, Env.put, Env.at, List.set_cons_zero, List.set_cons_succ, List.getD_cons_zero, List.getD_cons_succ, freezeL, resVs, oneOr, Option.map_some, Option.map_none, List.map_cons, List.map_nil, if_true, if_false, Bool.not_true, Bool.not_false, Bool.false_eq_true, reduceIte, decide_true, decide_false, Int.reduceLT, Int.reduceLE, Int.reduceGT, Int.reduceGE, Int.reduceEq, Int.reduceBEq, Int.reduceBNe, load_ptr, ldV_some, cellAt_cells, List.getElem?_cons_zero, List.getElem?_cons_succ, store_ptr, stO_some, setAt_0, setAt_1, setAt_2, setAt_3, setAt_4, setAt_5, setAt_6, setAt_7, setAt_8, setAt_9, setAt_10, setAt_11, setAt_12, cells_int, cells_bool, cells_str, cells_nils, cells_nilp, cells_ptr, cells_sl, cells_u8, cells_u16, cells_agg, get_upd_is, Option.isSome_some, upd_upd, ev1_nchkV, ev1_faV, nchkV_ptr, faV_ptr, ev1_extV, extV_tup, eqptr_nil, eqptr_ptr, Nat.zero_add, Nat.add_zero, qPL0, qPL1, qPL2, qPL3, qPL4, qPL5, beq_self_eq_true, qED0, qED1, placeR]
        exact ⟨_, rfl, rfl⟩
    · rw [ha] at m0
      simp only [M14b1, E14b, l0, fx, q1, q2, w1, i1, i2, k0, k1, ix0, ix1, gT, m0, ev1_ixpV, loadR_rp, stB_4_0_4, qES0, qES1, qES2, env0, List.length_cons, List.length_nil, Nat.reduceAdd, Nat.reduceSub, List.replicate, List.cons_append, List.nil_append, opd, Env.put, Env.at, List.set_cons_zero, List.set_cons_succ, List.getD_cons_zero, List.getD_cons_succ, freezeL, resVs, oneOr, Option.map_some, Option.map_none, List.map_cons, List.map_nil, if_true, if_false, Bool.not_true, Bool.not_false, Bool.false_eq_true, reduceIte, decide_true, decide_false, Int.reduceLT, Int.reduceLE, Int.reduceGT, Int.reduceGE, Int.reduceEq, Int.reduceBEq, Int.reduceBNe, load_ptr, ldV_some, cellAt_cells, List.getElem?_cons_zero, List.getElem?_cons_succ, store_ptr, stO_some, setAt_0, setAt_1, setAt_2, setAt_3, setAt_4, setAt_5, setAt_6, setAt_7, setAt_8, setAt_9, setAt_10, setAt_11, setAt_12, cells_int, cells_bool, cells_str, cells_nils, cells_nilp, cells_ptr, cells_sl, cells_u8, cells_u16, cells_agg, get_upd_is, Option.isSome_some, upd_upd, ev1_nchkV, ev1_faV, nchkV_ptr, faV_ptr, ev1_extV, extV_tup, eqptr_nil, eqptr_ptr, Nat.zero_add, Nat.add_zero, qPL0, qPL1, qPL2, qPL3, qPL4, qPL5, beq_self_eq_true, qED0, qED1, placeR]
      exact ⟨_, rfl, rfl⟩

theorem round14 (x : AV) (rows : List (List AV)) (hx : IsSteps x rows) (j : Nat) (hj : j < rows.length) (hj2 : j < 60) (S : St) (W V : Nat) (hW : W ≤ 7) (hV : V ≤ 7) (ta oa ia tb ob ib T P To : Nat) (X : Ss) (hI : Keep2 W V X) (hb : Bnd X j) (H : Tc S W V ta oa ia tb ob ib T P To X) : Round14 x S W V ta oa ia tb ob ib T P To X j := by
  obtain ⟨kind, n, loss, body, tl, i1, _⟩ := hx.ixa j hj (by omega)
  obtain ⟨b, hb2, a1⟩ := and1 n
  by_cases k0 : kind = 0
  · subst k0
    rcases (show b = 0 ∨ b = 1 by omega) with rfl | rfl
    · exact put140 x rows hx j hj hj2 S W V hW hV ta oa ia tb ob ib T P To X hI hb H n loss body tl i1 a1
    · exact put141 x rows hx j hj hj2 S W V hW hV ta oa ia tb ob ib T P To X hI hb H n loss body tl i1 a1
  by_cases k1 : kind = 1
  · subst k1
    rcases (show b = 0 ∨ b = 1 by omega) with rfl | rfl
    · exact say140 x rows hx j hj hj2 S W V hW hV ta oa ia tb ob ib T P To X hI hb H n loss body tl i1 a1
    · exact say141 x rows hx j hj hj2 S W V hW hV ta oa ia tb ob ib T P To X hI hb H n loss body tl i1 a1
  exact late14 x rows hx j hj hj2 S W V hW hV ta oa ia tb ob ib T P To X hI hb H kind n loss body tl i1 (beq_eq_false_iff_ne.2 k0) (beq_eq_false_iff_ne.2 k1)
end Go.Proofs.YtochnineebgbgaaDoor
/- TwoComplete: both loops. No conditions. -/
set_option linter.unusedSimpArgs false
set_option linter.unusedVariables false
set_option maxRecDepth 100000
set_option maxHeartbeats 4000000
namespace Go.Proofs.YtochnineebgbgaaDoor
open Go Go.Ab
theorem lost0 : lostB 0 = fun _ => false := by
  funext k
  unfold lostB lossI
  rw [Int.zero_fdiv]
  rfl
def E14c (T P To : Nat) (i : Int) : Env := [.undef, .undef, .undef, .undef, .undef, .undef, .undef, .undef, .ptr T 0, .ptr P 0, .ptr To 0, .undef, .undef, .int .i64 i, .undef, .undef, .undef, .undef, .undef, .undef, .undef, .undef, .undef, .undef, .undef, .undef, .undef, .undef, .undef, .undef, .undef, .undef, .undef, .undef, .undef, .undef, .undef, .undef, .undef, .undef, .undef, .undef, .undef, .undef, .undef, .undef, .undef, .undef, .undef, .undef, .undef, .undef, .undef, .undef, .undef, .undef, .undef, .undef, .undef, .undef, .undef, .undef, .undef, .undef, .undef, .undef, .undef, .undef, .undef, .undef, .undef, .undef, .undef, .undef, .undef, .undef, .undef, .undef, .undef, .undef, .undef, .undef, .undef, .undef, .undef, .undef, .undef, .undef, .undef, .undef, .undef, .undef, .undef, .undef, .undef, .undef, .undef, .undef, .undef, .undef, .undef, .undef, .undef, .undef, .undef, .undef, .undef, .undef, .undef, .undef, .undef, .undef, .undef, .undef, .undef, .undef, .undef, .undef, .undef, .undef, .undef, .undef, .undef, .undef, .undef, .undef, .undef, .undef, .undef, .undef, .undef, .undef, .undef, .undef, .undef, .undef, .undef, .undef, .undef, .undef, .undef, .undef, .undef, .undef, .undef, .undef, .undef, .undef, .undef, .undef]
structure Bn2 (X : Ss) (j : Nat) : Prop where
  b1 : X.p0 ≤ 480
  b2 : X.p1 ≤ 480
  b3 : X.t0 ≤ 480 + 8 * j
  b4 : X.t1 ≤ 480 + 8 * j
  c1 : X.a.L.length ≤ 8 - j
  c2 : X.p1 - X.t0 ≤ 8 - j
  c3 : 1 ≤ j → X.b.L.length ≤ 9 - j
theorem last14 (j : Nat) (hj : j < 20) (S : St) (W V : Nat) (hW : W ≤ 7) (hV : V ≤ 7) (hW1 : 1 ≤ W) (hV1 : 1 ≤ V) (ta oa ia tb ob ib T P To : Nat) (X : Ss) (hI : Keep2 W V X) (hb : Bn2 X j) (H : Tc S W V ta oa ia tb ob ib T P To X) :
    ∃ e' S' X', evC tabGl (evO 999) 999 M14b0 (E14c T P To (j : Nat)) S = some (.nrm, e', S') ∧ maskE M14b0l e' = E14c T P To ((j + 1 : Nat) : Int) ∧ Keep2 W V X' ∧ Tc S' W V ta oa ia tb ob ib T P To X' ∧ Bn2 X' (j + 1) := by
  have q2 : ((j : Int) < 20) = True := eq_true (by omega)
  have w1 : IntKind.i64.wrap ((j : Int) + 1) = ((j + 1 : Nat) : Int) := (wrapI _ (by omega) (by omega)).trans (by omega)
  have ix0 : ixpV 2 1 (.ptr T 0) (.int .i64 0) = some (.ptr T 0) := rfl
  have ix1 : ixpV 2 1 (.ptr T 0) (.int .i64 1) = some (.ptr T 1) := rfl
  have io0 : ixpV 2 1 (.ptr To 0) (.int .i64 0) = some (.ptr To 0) := rfl
  have io1 : ixpV 2 1 (.ptr To 0) (.int .i64 1) = some (.ptr To 1) := rfl
  obtain ⟨b, t, a, t', e1, e2, k1, k2, k3, k4, k5, k6, k7⟩ := hI.round hW hV hW1 hV1
  rw [← lost0] at e1 e2
  have gT : S.get T = some (cT ta tb) := (Apart.get H (by simp)).1
  obtain ⟨S1, p1, p2, _⟩ := late_evT 998 (Apart.head H) (.inl hI.ra)
  have D1 := (Apart.turnStep H p1 (fun C hC => ⟨hC, trivial⟩) (T' := X.a.late) p2).1
  have gT1 : S1.get T = some (cT ta tb) := (D1.get (by simp)).1
  have gN1 : S1.get To = some (cN X.t0 X.t1) := (D1.get (by simp)).1
  obtain ⟨S2, p3, D2⟩ := say_ev 0 W V 40 _ ta oa ia tb ob ib X.t1 t X.a.late X.b b _ D1 (hI.late.ok hW hV).1 hW (.inr hI.rb) e1
  have le1 := say_mono hW e1
  have gT2 : S2.get T = some (cT ta tb) := (D2.get (by simp)).1
  have gN2 : S2.get To = some (cN X.t0 X.t1) := (D2.get (by simp)).1
  have D3 := Apart.updAt (l1 := [turnPart ta oa ia 40 W (X.a.late.went W), turnPart tb ob ib 40 V b, cellPart T (cT ta tb), cellPart P (cN X.p0 X.p1)]) (l2 := []) D2 (cN X.t0 t)
  obtain ⟨S3, hS3⟩ : ∃ S3, S2.upd To (cN X.t0 t) = S3 := ⟨_, rfl⟩
  rw [hS3] at D3
  have gT3 : S3.get T = some (cT ta tb) := (D3.get (by simp)).1
  have gN3 : S3.get To = some (cN X.t0 t) := (D3.get (by simp)).1
  obtain ⟨S4, p4, D4⟩ := say_ev 0 V W 40 _ tb ob ib ta oa ia X.t0 t' b (X.a.late.went W) a _ D3.swap (k7.ok hW hV).2 hV (.inl k7.ra) e2
  have le2 := say_mono hV e2
  have D5 := D4.swap
  have gT4 : S4.get T = some (cT ta tb) := (D5.get (by simp)).1
  have gN4 : S4.get To = some (cN X.t0 t) := (D5.get (by simp)).1
  have D6 := Apart.updAt (l1 := [turnPart ta oa ia 40 W a, turnPart tb ob ib 40 V (b.went V), cellPart T (cT ta tb), cellPart P (cN X.p0 X.p1)]) (l2 := []) D5 (cN t' t)
  obtain ⟨b1, b2, b3, b4, c1, c2, c3⟩ := hb
  have w2 : IntKind.i64.wrap (((X.t1 : Nat) : Int) + ((t - X.t1 : Nat) : Int)) = ((t : Nat) : Int) := (wrapI _ (by omega) (by omega)).trans (by omega)
  have w3 : IntKind.i64.wrap (((X.t0 : Nat) : Int) + ((t' - X.t0 : Nat) : Int)) = ((t' : Nat) : Int) := (wrapI _ (by omega) (by omega)).trans (by omega)
  suffices hs : ∃ e', evC tabGl (evO 999) 999 M14b0 (E14c T P To (j : Nat)) S = some (.nrm, e', S4.upd To (cN t' t)) ∧ maskE M14b0l e' = E14c T P To ((j + 1 : Nat) : Int) by
    obtain ⟨e', g1, g2⟩ := hs
    exact ⟨e', _, _, g1, g2, k1, D6, ⟨b1, b2, by simp only; omega, by simp only; omega, by simp only; omega, by simp only; omega, fun _ => by simp only; omega⟩⟩
  unfold cT at gT gT1 gT2 gT3 gT4
  unfold cN at gN1 gN2 gN3 gN4 hS3 ⊢
  simp only [M14b0, E14c, q2, w1, ix0, ix1, io0, io1, gT, p1, gT1, gN1, p3, gN2, ev1_ixpV, qES0, qES1, qES2, env0, List.length_cons, List.length_nil, Nat.reduceAdd, Nat.reduceSub, List.replicate, List.cons_append, List.nil_append, opd, Env.put, Env.at, List.set_cons_zero, List.set_cons_succ, List.getD_cons_zero, List.getD_cons_succ, freezeL, resVs, oneOr, Option.map_some, Option.map_none, List.map_cons, List.map_nil, if_true, if_false, Bool.not_true, Bool.not_false, Bool.false_eq_true, reduceIte, decide_true, decide_false, Int.reduceLT, Int.reduceLE, Int.reduceGT, Int.reduceGE, Int.reduceEq, Int.reduceBEq, Int.reduceBNe, load_ptr, ldV_some, cellAt_cells, List.getElem?_cons_zero, List.getElem?_cons_succ, store_ptr, stO_some, setAt_0, setAt_1, setAt_2, setAt_3, setAt_4, setAt_5, setAt_6, setAt_7, setAt_8, setAt_9, setAt_10, setAt_11, setAt_12, cells_int, cells_bool, cells_str, cells_nils, cells_nilp, cells_ptr, cells_sl, cells_u8, cells_u16, cells_agg, get_upd_is, Option.isSome_some, upd_upd, ev1_nchkV, ev1_faV, nchkV_ptr, faV_ptr, ev1_extV, extV_tup, eqptr_nil, eqptr_ptr, Nat.zero_add, Nat.add_zero, qPL0, qPL1, qPL2, qPL3, qPL4, qPL5, beq_self_eq_true, qED0, qED1, placeR]
  rw [drawR_ok]; case h => simp (config := {decide := true}) [calm, calmPair, calmTwo, List.range, List.range.loop, sameO_refl, gT1, gT2, gN1, gN2]
  simp only [w1, w2, gN2, hS3, ix0, ix1, io0, io1, gT3, gN3, p4, gN4, ev1_ixpV, qES0, qES1, qES2, env0, List.length_cons, List.length_nil, Nat.reduceAdd, Nat.reduceSub, List.replicate, List.cons_append, List.nil_append, opd, Env.put, Env.at, List.set_cons_zero, List.set_cons_succ, List.getD_cons_zero, List.getD_cons_succ, freezeL, resVs, oneOr, Option.map_some, Option.map_none, List.map_cons, List.map_nil, if_true, if_false, Bool.not_true, Bool.not_false, Bool.false_eq_true, reduceIte, decide_true, decide_false, Int.reduceLT, Int.reduceLE, Int.reduceGT, Int.reduceGE, Int.reduceEq, Int.reduceBEq, Int.reduceBNe, load_ptr, ldV_some, cellAt_cells, List.getElem?_cons_zero, List.getElem?_cons_succ, store_ptr, stO_some, setAt_0, setAt_1, setAt_2, setAt_3, setAt_4, setAt_5, setAt_6, setAt_7, setAt_8, setAt_9, setAt_10, setAt_11, setAt_12, cells_int, cells_bool, cells_str, cells_nils, cells_nilp, cells_ptr, cells_sl, cells_u8, cells_u16, cells_agg, get_upd_is, Option.isSome_some, upd_upd, ev1_nchkV, ev1_faV, nchkV_ptr, faV_ptr, ev1_extV, extV_tup, eqptr_nil, eqptr_ptr, Nat.zero_add, Nat.add_zero, qPL0, qPL1, qPL2, qPL3, qPL4, qPL5, beq_self_eq_true, qED0, qED1, placeR]
  rw [drawR_ok]; case h => simp (config := {decide := true}) [calm, calmPair, calmTwo, List.range, List.range.loop, sameO_refl, gT3, gT4, gN3, gN4]
  simp only [w1, w3, gN4, qES0, qES1, qES2, env0, List.length_cons, List.length_nil, Nat.reduceAdd, Nat.reduceSub, List.replicate, List.cons_append, List.nil_append, opd, Env.put, Env.at, List.set_cons_zero, List.set_cons_succ, List.getD_cons_zero, List.getD_cons_succ, freezeL, resVs, oneOr, Option.map_some, Option.map_none, List.map_cons, List.map_nil, if_true, if_false, Bool.not_true, Bool.not_false, Bool.false_eq_true, reduceIte, decide_true, decide_false, Int.reduceLT, Int.reduceLE, Int.reduceGT, Int.reduceGE, Int.reduceEq, Int.reduceBEq, Int.reduceBNe, load_ptr, ldV_some, cellAt_cells, List.getElem?_cons_zero, List.getElem?_cons_succ, store_ptr, stO_some, setAt_0, setAt_1, setAt_2, setAt_3, setAt_4, setAt_5, setAt_6, setAt_7, setAt_8, setAt_9, setAt_10, setAt_11, setAt_12, cells_int, cells_bool, cells_str, cells_nils, cells_nilp, cells_ptr, cells_sl, cells_u8, cells_u16, cells_agg, get_upd_is, Option.isSome_some, upd_upd, ev1_nchkV, ev1_faV, nchkV_ptr, faV_ptr, ev1_extV, extV_tup, eqptr_nil, eqptr_ptr, Nat.zero_add, Nat.add_zero, qPL0, qPL1, qPL2, qPL3, qPL4, qPL5, beq_self_eq_true, qED0, qED1, placeR]
  exact ⟨_, rfl, rfl⟩
theorem lastL (S : St) (W V : Nat) (hW : W ≤ 7) (hV : V ≤ 7) (hW1 : 1 ≤ W) (hV1 : 1 ≤ V) (ta oa ia tb ob ib T P To : Nat) (X : Ss) (hI : Keep2 W V X) (hb : Bn2 X 0) (H : Tc S W V ta oa ia tb ob ib T P To X) (e : Env) (he : maskE M14b0l e = E14c T P To 0) :
    valR (outR M14.res (seqR (blockR 3 (iter (evC tabGl (evO 999) 999 M14b0) M14b0l 999 e S)) (evC tabGl (evO 999) 999 M14r0))) = some (.bool true) := by
  refine iter_leave (evC tabGl (evO 999) 999 M14b0) M14b0l (fun i e S => maskE M14b0l e = E14c T P To (i : Nat) ∧ ∃ X, Keep2 W V X ∧ Tc S W V ta oa ia tb ob ib T P To X ∧ Bn2 X i)
    (fun out => valR (outR M14.res (seqR (blockR 3 out) (evC tabGl (evO 999) 999 M14r0))) = some (.bool true)) 20 ?_ ?_ 20 0 _ _ 999 (by omega) ⟨he, X, hI, H, hb⟩ (by omega)
  · rintro i e S hi ⟨h1, X, h2, h3, h4⟩
    rw [h1]
    left
    obtain ⟨e', S', X', p1, p2, p3, p4, p5⟩ := last14 i hi S W V hW hV hW1 hV1 ta oa ia tb ob ib T P To X h2 h4 h3
    exact ⟨e', S', p1, p2, X', p3, p4, p5⟩
  · rintro e S ⟨h1, X, h2, h3, h4⟩
    rw [h1]
    have c1 := h4.c1
    have c2 := h4.c2
    have c3 := h4.c3 (by omega)
    obtain ⟨f1, f2⟩ := h2.ends (by omega) (by omega) (by omega)
    have gT : S.get T = some (cT ta tb) := (Apart.get h3 (by simp)).1
    have gP : S.get P = some (cN X.p0 X.p1) := (Apart.get h3 (by simp)).1
    have gN : S.get To = some (cN X.t0 X.t1) := (Apart.get h3 (by simp)).1
    have la := left_evT 997 (Apart.head h3)
    have lb := left_evT 997 (Apart.head (Apart.tail h3))
    rw [show X.a.L.length = 0 by omega] at la
    rw [show X.b.L.length = 0 by omega] at lb
    rw [f1, f2] at gN
    unfold cT at gT
    unfold cN at gP gN
    have q : (((20 : Nat) : Int) < 20) = False := eq_false (by omega)
    have ix0 : ixpV 2 1 (.ptr T 0) (.int .i64 0) = some (.ptr T 0) := rfl
    have ix1 : ixpV 2 1 (.ptr T 0) (.int .i64 1) = some (.ptr T 1) := rfl
    have io0 : ixpV 2 1 (.ptr To 0) (.int .i64 0) = some (.ptr To 0) := rfl
    have io1 : ixpV 2 1 (.ptr To 0) (.int .i64 1) = some (.ptr To 1) := rfl
    have ip0 : ixpV 2 1 (.ptr P 0) (.int .i64 0) = some (.ptr P 0) := rfl
    have ip1 : ixpV 2 1 (.ptr P 0) (.int .i64 1) = some (.ptr P 1) := rfl
    have nn : ∀ n : Nat, (((n : Nat) : Int) == ((n : Nat) : Int)) = true := fun n => by simp
    have z1 : (((0 : Nat) : Int) == 0) = true := rfl
    have hr : M14.res = [MRes.tmp 0 6] := rfl
    refine ⟨?_, fun _ _ h => ?_⟩
    · simp only [M14b0, E14c, M14r0, q, ix0, ix1, io0, io1, ip0, ip1, gT, gP, gN, la, lb, nn, z1, hr, ev1_ixpV, qES0, qES1, qES2, env0, List.length_cons, List.length_nil, Nat.reduceAdd, Nat.reduceSub, List.replicate, List.cons_append, List.nil_append, opd, Env.put, Env.at, List.set_cons_zero, List.set_cons_succ, List.getD_cons_zero, List.getD_cons_succ, freezeL, resVs, oneOr, Option.map_some, Option.map_none, List.map_cons, List.map_nil, if_true, if_false, Bool.not_true, Bool.not_false, Bool.false_eq_true, reduceIte, decide_true, decide_false, Int.reduceLT, Int.reduceLE, Int.reduceGT, Int.reduceGE, Int.reduceEq, Int.reduceBEq, Int.reduceBNe, load_ptr, ldV_some, cellAt_cells, List.getElem?_cons_zero, List.getElem?_cons_succ, store_ptr, stO_some, setAt_0, setAt_1, setAt_2, setAt_3, setAt_4, setAt_5, setAt_6, setAt_7, setAt_8, setAt_9, setAt_10, setAt_11, setAt_12, cells_int, cells_bool, cells_str, cells_nils, cells_nilp, cells_ptr, cells_sl, cells_u8, cells_u16, cells_agg, get_upd_is, Option.isSome_some, upd_upd, ev1_nchkV, ev1_faV, nchkV_ptr, faV_ptr, ev1_extV, extV_tup, eqptr_nil, eqptr_ptr, Nat.zero_add, Nat.add_zero, qPL0, qPL1, qPL2, qPL3, qPL4, qPL5, beq_self_eq_true, qED0, qED1, placeR]
    · simp only [M14b0, E14c, q, qES0, qES1, qES2, env0, List.length_cons, List.length_nil, Nat.reduceAdd, Nat.reduceSub, List.replicate, List.cons_append, List.nil_append, opd, Env.put, Env.at, List.set_cons_zero, List.set_cons_succ, List.getD_cons_zero, List.getD_cons_succ, freezeL, resVs, oneOr, Option.map_some, Option.map_none, List.map_cons, List.map_nil, if_true, if_false, Bool.not_true, Bool.not_false, Bool.false_eq_true, reduceIte, decide_true, decide_false, Int.reduceLT, Int.reduceLE, Int.reduceGT, Int.reduceGE, Int.reduceEq, Int.reduceBEq, Int.reduceBNe, load_ptr, ldV_some, cellAt_cells, List.getElem?_cons_zero, List.getElem?_cons_succ, store_ptr, stO_some, setAt_0, setAt_1, setAt_2, setAt_3, setAt_4, setAt_5, setAt_6, setAt_7, setAt_8, setAt_9, setAt_10, setAt_11, setAt_12, cells_int, cells_bool, cells_str, cells_nils, cells_nilp, cells_ptr, cells_sl, cells_u8, cells_u16, cells_agg, get_upd_is, Option.isSome_some, upd_upd, ev1_nchkV, ev1_faV, nchkV_ptr, faV_ptr, ev1_extV, extV_tup, eqptr_nil, eqptr_ptr, Nat.zero_add, Nat.add_zero, qPL0, qPL1, qPL2, qPL3, qPL4, qPL5, beq_self_eq_true, qED0, qED1, placeR] at h
      cases h
theorem firstT (x : AV) (rows : List (List AV)) (hx : IsSteps x rows) (S : St) (W V : Nat) (hW : W ≤ 7) (hV : V ≤ 7) (hW1 : 1 ≤ W) (hV1 : 1 ≤ V) (ta oa ia tb ob ib T P To : Nat) (X : Ss) (hI : Keep2 W V X) (hb : Bnd X 0) (H : Tc S W V ta oa ia tb ob ib T P To X) (e : Env) (he : maskE M14b1l e = E14b x T P To 0) :
    valR (outR M14.res (seqR (blockR 0 (iter (evC tabGl (evO 999) 999 M14b1) M14b1l 999 e S)) (evC tabGl (evO 999) 999 M14r1))) = some (.bool true) := by
  have l0 := hx.len
  have fx := hx.freeze
  refine iter_leave (evC tabGl (evO 999) 999 M14b1) M14b1l (fun i e S => maskE M14b1l e = E14b x T P To (i : Nat) ∧ ∃ X, Keep2 W V X ∧ Tc S W V ta oa ia tb ob ib T P To X ∧ Bnd X i)
    (fun out => valR (outR M14.res (seqR (blockR 0 out) (evC tabGl (evO 999) 999 M14r1))) = some (.bool true)) (min rows.length 60) ?_ ?_ (min rows.length 60) 0 _ _ 999 (by omega) ⟨he, X, hI, H, hb⟩ (by omega)
  · rintro i e S hi ⟨h1, X, h2, h3, h4⟩
    rw [h1]
    left
    obtain ⟨e', S', X', p1, p2, p3, p4, p5⟩ := round14 x rows hx i (by omega) (by omega) S W V hW hV ta oa ia tb ob ib T P To X h2 h4 h3
    exact ⟨e', S', p1, p2, X', p3, p4, p5⟩
  · rintro e S ⟨h1, X, h2, h3, h4⟩
    rw [h1]
    have hb2 : Bn2 X 0 := by
      obtain ⟨b1, b2, b3, b4⟩ := h4
      obtain ⟨k, kb⟩ := h2.kb
      have := kb.put
      have := kb.lo
      have := h2.lb
      have := h2.la
      exact ⟨by omega, by omega, by omega, by omega, by omega, by omega, fun h => by omega⟩
    have key := lastL S W V hW hV hW1 hV1 ta oa ia tb ob ib T P To X h2 hb2 h3
    by_cases hq : rows.length ≤ 60
    · rw [Nat.min_eq_left hq]
      have q1 : (((rows.length : Nat) : Int) < ((rows.length : Nat) : Int)) = False := eq_false (by omega)
      refine ⟨?_, fun _ _ h => ?_⟩
      · simp only [M14b1, E14b, M14r1, l0, fx, q1, evC_loop, qES0, qES1, qES2, env0, List.length_cons, List.length_nil, Nat.reduceAdd, Nat.reduceSub, List.replicate, List.cons_append, List.nil_append, opd, Env.put, Env.at, List.set_cons_zero, List.set_cons_succ, List.getD_cons_zero, List.getD_cons_succ, freezeL, resVs, oneOr, Option.map_some, Option.map_none, List.map_cons, List.map_nil, if_true, if_false, Bool.not_true, Bool.not_false, Bool.false_eq_true, reduceIte, decide_true, decide_false, Int.reduceLT, Int.reduceLE, Int.reduceGT, Int.reduceGE, Int.reduceEq, Int.reduceBEq, Int.reduceBNe, load_ptr, ldV_some, cellAt_cells, List.getElem?_cons_zero, List.getElem?_cons_succ, store_ptr, stO_some, setAt_0, setAt_1, setAt_2, setAt_3, setAt_4, setAt_5, setAt_6, setAt_7, setAt_8, setAt_9, setAt_10, setAt_11, setAt_12, cells_int, cells_bool, cells_str, cells_nils, cells_nilp, cells_ptr, cells_sl, cells_u8, cells_u16, cells_agg, get_upd_is, Option.isSome_some, upd_upd, ev1_nchkV, ev1_faV, nchkV_ptr, faV_ptr, ev1_extV, extV_tup, eqptr_nil, eqptr_ptr, Nat.zero_add, Nat.add_zero, qPL0, qPL1, qPL2, qPL3, qPL4, qPL5, beq_self_eq_true, qED0, qED1, placeR]
        exact key _ rfl
      · simp only [M14b1, E14b, l0, fx, q1, qES0, qES1, qES2, env0, List.length_cons, List.length_nil, Nat.reduceAdd, Nat.reduceSub, List.replicate, List.cons_append, List.nil_append, opd, Env.put, Env.at, List.set_cons_zero, List.set_cons_succ, List.getD_cons_zero, List.getD_cons_succ, freezeL, resVs, oneOr, Option.map_some, Option.map_none, List.map_cons, List.map_nil, if_true, if_false, Bool.not_true, Bool.not_false, Bool.false_eq_true, reduceIte, decide_true, decide_false, Int.reduceLT, Int.reduceLE, Int.reduceGT, Int.reduceGE, Int.reduceEq, Int.reduceBEq, Int.reduceBNe, load_ptr, ldV_some, cellAt_cells, List.getElem?_cons_zero, List.getElem?_cons_succ, store_ptr, stO_some, setAt_0, setAt_1, setAt_2, setAt_3, setAt_4, setAt_5, setAt_6, setAt_7, setAt_8, setAt_9, setAt_10, setAt_11, setAt_12, cells_int, cells_bool, cells_str, cells_nils, cells_nilp, cells_ptr, cells_sl, cells_u8, cells_u16, cells_agg, get_upd_is, Option.isSome_some, upd_upd, ev1_nchkV, ev1_faV, nchkV_ptr, faV_ptr, ev1_extV, extV_tup, eqptr_nil, eqptr_ptr, Nat.zero_add, Nat.add_zero, qPL0, qPL1, qPL2, qPL3, qPL4, qPL5, beq_self_eq_true, qED0, qED1, placeR] at h
        cases h
    · rw [Nat.min_eq_right (by omega)]
      have q1 : (((60 : Nat) : Int) < ((rows.length : Nat) : Int)) = True := eq_true (by omega)
      have q2 : (((60 : Nat) : Int) < 60) = False := eq_false (by omega)
      refine ⟨?_, fun _ _ h => ?_⟩
      · simp only [M14b1, E14b, M14r1, l0, fx, q1, q2, evC_loop, qES0, qES1, qES2, env0, List.length_cons, List.length_nil, Nat.reduceAdd, Nat.reduceSub, List.replicate, List.cons_append, List.nil_append, opd, Env.put, Env.at, List.set_cons_zero, List.set_cons_succ, List.getD_cons_zero, List.getD_cons_succ, freezeL, resVs, oneOr, Option.map_some, Option.map_none, List.map_cons, List.map_nil, if_true, if_false, Bool.not_true, Bool.not_false, Bool.false_eq_true, reduceIte, decide_true, decide_false, Int.reduceLT, Int.reduceLE, Int.reduceGT, Int.reduceGE, Int.reduceEq, Int.reduceBEq, Int.reduceBNe, load_ptr, ldV_some, cellAt_cells, List.getElem?_cons_zero, List.getElem?_cons_succ, store_ptr, stO_some, setAt_0, setAt_1, setAt_2, setAt_3, setAt_4, setAt_5, setAt_6, setAt_7, setAt_8, setAt_9, setAt_10, setAt_11, setAt_12, cells_int, cells_bool, cells_str, cells_nils, cells_nilp, cells_ptr, cells_sl, cells_u8, cells_u16, cells_agg, get_upd_is, Option.isSome_some, upd_upd, ev1_nchkV, ev1_faV, nchkV_ptr, faV_ptr, ev1_extV, extV_tup, eqptr_nil, eqptr_ptr, Nat.zero_add, Nat.add_zero, qPL0, qPL1, qPL2, qPL3, qPL4, qPL5, beq_self_eq_true, qED0, qED1, placeR]
        exact key _ rfl
      · simp only [M14b1, E14b, l0, fx, q1, q2, qES0, qES1, qES2, env0, List.length_cons, List.length_nil, Nat.reduceAdd, Nat.reduceSub, List.replicate, List.cons_append, List.nil_append, opd, Env.put, Env.at, List.set_cons_zero, List.set_cons_succ, List.getD_cons_zero, List.getD_cons_succ, freezeL, resVs, oneOr, Option.map_some, Option.map_none, List.map_cons, List.map_nil, if_true, if_false, Bool.not_true, Bool.not_false, Bool.false_eq_true, reduceIte, decide_true, decide_false, Int.reduceLT, Int.reduceLE, Int.reduceGT, Int.reduceGE, Int.reduceEq, Int.reduceBEq, Int.reduceBNe, load_ptr, ldV_some, cellAt_cells, List.getElem?_cons_zero, List.getElem?_cons_succ, store_ptr, stO_some, setAt_0, setAt_1, setAt_2, setAt_3, setAt_4, setAt_5, setAt_6, setAt_7, setAt_8, setAt_9, setAt_10, setAt_11, setAt_12, cells_int, cells_bool, cells_str, cells_nils, cells_nilp, cells_ptr, cells_sl, cells_u8, cells_u16, cells_agg, get_upd_is, Option.isSome_some, upd_upd, ev1_nchkV, ev1_faV, nchkV_ptr, faV_ptr, ev1_extV, extV_tup, eqptr_nil, eqptr_ptr, Nat.zero_add, Nat.add_zero, qPL0, qPL1, qPL2, qPL3, qPL4, qPL5, beq_self_eq_true, qED0, qED1, placeR] at h
        cases h
end Go.Proofs.YtochnineebgbgaaDoor
