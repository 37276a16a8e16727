/- Other parameters among an offer's; the loops of the law QosMore. No conditions. -/
import Derived.Test.YtbeimfhodgmjhaaDoorSMore
import Derived.Test.YtbeimfhodgmjhaaDoorM8_4
set_option linter.unusedSimpArgs false
set_option linter.unusedVariables false
set_option maxRecDepth 100000
set_option maxHeartbeats 4000000
namespace Go.Proofs.YtbeimfhodgmjhaaDoor
open Go Go.Ab
theorem tpC_take (l : List Tp) (i : Nat) : (tpC l).take (i * 2) = tpC (l.take i) := by
  induction l generalizing i with
  | nil => simp [tpC]
  | cons t l ih =>
    cases i with
    | zero => simp [tpC]
    | succ i =>
      rw [show (i + 1) * 2 = i * 2 + 2 by omega]
      have := ih i
      show AV.int .i64 t.1 :: AV.str t.2 :: (tpC l).take (i * 2) = AV.int .i64 t.1 :: AV.str t.2 :: tpC (l.take i)
      rw [this]
theorem tp_slo (l : List Tp) (k : Nat) (hk : k ≤ l.length) : slcV 2 (.sl (tpC l) l.length none) none (some (.int .i64 (k : Int))) = some (.sl (tpC (l.take k)) k none) := by
  have h1 : bnd l.length (.int .i64 (k : Int)) = some k := by simp [bnd]; omega
  simp only [slcV, bndO, h1, tpC_take, tkCut, Nat.zero_mul, List.drop_zero, Nat.sub_zero]
theorem tp_shi (l : List Tp) (k : Nat) (hk : k ≤ l.length) : slcV 2 (.sl (tpC l) l.length none) (some (.int .i64 (k : Int))) none = some (.sl (tpC (l.drop k)) (l.length - k) none) := by
  have h1 : bnd l.length (.int .i64 (k : Int)) = some k := by simp [bnd]; omega
  simp only [slcV, bndO, h1, tkCut]
  rw [List.take_of_length_le (by rw [tpC_length]; omega), tpC_drop]
theorem ownG_appz {size bytes : Nat} {s : St} {x y : AV} {cs ds : List AV} {n m : Nat} (h : OwnG size s x cs n) (g : newsOf size s y = some (ds, m)) (hd : ds.length = m * size) (hf : fits (n + m) bytes = true) :
    ∃ z s', appV false size bytes s x y = some (z, s') ∧ OwnG size s' z (cs ++ ds) (n + m) ∧ KeepC s s' := by
  by_cases hm : m = 0
  · subst hm
    have hds : ds = [] := List.length_eq_zero_iff.1 (by simpa using hd)
    subst hds
    rcases h with ⟨rfl, rfl, rfl⟩ | ⟨hp, t, v, rfl, h0, h1, h2⟩
    · exact ⟨.nils, s, by simp only [appV, g, appS, Bool.false_and, if_false, Bool.false_eq_true, if_true], .inl ⟨rfl, rfl, rfl⟩, KeepC.refl _⟩
    · refine ⟨.sl (cs ++ []) (n + 0) (some (t, v + 1, size)), s.upd t (.tick size (v + 1)), ?_, .inr ⟨by omega, t, v + 1, rfl, by rw [List.append_nil, Nat.add_zero]; exact h0, h1, get_upd_eq _ _ h2⟩, KeepC.tick _ h2⟩
      simp only [appV, g, appS, h2, Bool.false_and, if_false, Bool.false_eq_true]
      rw [if_pos ⟨trivial, trivial, h0, hf⟩]
  · exact h.app g hd hm hf
theorem news_tp {x : AV} {l : List Tp} (h : IsTp x l) (s : St) : newsOf 2 s x = some (tpC l, l.length) := by
  rcases h with ⟨rfl, rfl⟩ | ⟨tk, rfl⟩
  · rfl
  · show (if (tpC l).length = l.length * 2 then some (tpC l, l.length) else none) = _
    rw [if_pos (tpC_length l)]
theorem ownG_isTp {s : St} {x : AV} {l : List Tp} {n : Nat} (h : OwnG 2 s x (tpC l) n) (hn : n = l.length) : IsTp x l := by
  subst hn
  rcases h with ⟨q1, q2, _⟩ | ⟨_, t, v, q, _⟩
  · exact .inl ⟨q1, List.length_eq_zero_iff.1 q2⟩
  · exact .inr ⟨_, q⟩
/-! What the first of a number counts. -/
theorem findT_app (id : Int) (a b : List Tp) : findT id (a ++ b) = (findT id a).or (findT id b) := by
  induction a with
  | nil => rfl
  | cons t a ih =>
    show (if t.1 = id then some t.2 else findT id (a ++ b)) = (if t.1 = id then some t.2 else findT id a).or _
    split
    · rfl
    · exact ih
theorem findT_no (id : Int) (l : List Tp) (h : ∀ t ∈ l, t.1 ≠ id) : findT id l = none := by
  induction l with
  | nil => rfl
  | cons t l ih =>
    show (if t.1 = id then some t.2 else findT id l) = none
    rw [if_neg (h t (by simp))]
    exact ih (fun t ht => h t (by simp [ht]))
theorem tupO_id (o : Of5) (j : Nat) (hj : j < 5) : ∃ v, (tupO o)[j]? = some ((j : Int) + 1, v) := by
  match j, hj with
  | 0, _ => exact ⟨_, rfl⟩
  | 1, _ => exact ⟨_, rfl⟩
  | 2, _ => exact ⟨_, rfl⟩
  | 3, _ => exact ⟨_, rfl⟩
  | 4, _ => exact ⟨_, rfl⟩
theorem find_more (o : Of5) (m : List Tp) (k : Nat) (hk : k < 6) (hc : ∀ t ∈ m, ∀ j : Nat, k ≤ j → j < 5 → t.1 ≠ (j : Int) + 1) (j : Nat) (hj : j < 5) :
    findT ((j : Int) + 1) ((tupO o).take k ++ m ++ (tupO o).drop k) = findT ((j : Int) + 1) (tupO o) := by
  have e : findT ((j : Int) + 1) (tupO o) = findT ((j : Int) + 1) ((tupO o).take k ++ (tupO o).drop k) := by rw [List.take_append_drop]
  rw [e, findT_app, findT_app, findT_app]
  by_cases h : k ≤ j
  · rw [findT_no _ m (fun t ht => hc t ht j h hj), Option.or_none]
  · have : ∃ v, findT ((j : Int) + 1) ((tupO o).take k) = some v := by
      match k, hk, j, hj with
      | 1, _, 0, _ => exact ⟨_, rfl⟩
      | 2, _, 0, _ => exact ⟨_, rfl⟩
      | 3, _, 0, _ => exact ⟨_, rfl⟩
      | 4, _, 0, _ => exact ⟨_, rfl⟩
      | 5, _, 0, _ => exact ⟨_, rfl⟩
      | 2, _, 1, _ => exact ⟨_, rfl⟩
      | 3, _, 1, _ => exact ⟨_, rfl⟩
      | 4, _, 1, _ => exact ⟨_, rfl⟩
      | 5, _, 1, _ => exact ⟨_, rfl⟩
      | 3, _, 2, _ => exact ⟨_, rfl⟩
      | 4, _, 2, _ => exact ⟨_, rfl⟩
      | 5, _, 2, _ => exact ⟨_, rfl⟩
      | 4, _, 3, _ => exact ⟨_, rfl⟩
      | 5, _, 3, _ => exact ⟨_, rfl⟩
      | 5, _, 4, _ => exact ⟨_, rfl⟩
      | 0, _, j, _ => omega
      | 1, _, j + 1, _ => omega
      | 2, _, j + 2, _ => omega
      | 3, _, j + 3, _ => omega
      | 4, _, j + 4, _ => omega
    obtain ⟨v, hv⟩ := this
    rw [hv]; rfl
theorem getO_mid (o : Of5) (ho : o.may) (m : List Tp) (k : Nat) (hk : k < 6) (hm : m.length ≤ 3) (hp : putOk ((tupO o).take k ++ m ++ (tupO o).drop k))
    (hc : ∀ t ∈ m, ∀ j : Nat, k ≤ j → j < 5 → t.1 ≠ (j : Int) + 1) : getO (encL ((tupO o).take k ++ m ++ (tupO o).drop k)) = some o := by
  have hf := find_more o m k hk hc
  have hlen : ((tupO o).take k ++ m ++ (tupO o).drop k).length < 65 := by
    simp only [List.length_append, List.length_take, List.length_drop]
    have : (tupO o).length = 5 := rfl
    omega
  have hs : ∀ j : Nat, j < 5 → setOf ((tupO o).take k ++ m ++ (tupO o).drop k) ((j : Int) + 1) = setOf (tupO o) ((j : Int) + 1) := fun j hj => by
    unfold setOf; rw [hf j hj]
  have he : ofL ((tupO o).take k ++ m ++ (tupO o).drop k) = o := by
    have e5 : ∀ L : List Tp, ofL L = ⟨setOf L 1, setOf L 2, setOf L 3, setOf L 4, setOf L 5⟩ := fun _ => rfl
    have e0 := (e5 (tupO o)).symm.trans (ofL_tupO o ho)
    have s1 := hs 0 (by omega)
    have s2 := hs 1 (by omega)
    have s3 := hs 2 (by omega)
    have s4 := hs 3 (by omega)
    have s5 := hs 4 (by omega)
    rw [e5, show setOf ((tupO o).take k ++ m ++ (tupO o).drop k) 1 = _ from s1, show setOf ((tupO o).take k ++ m ++ (tupO o).drop k) 2 = _ from s2, show setOf ((tupO o).take k ++ m ++ (tupO o).drop k) 3 = _ from s3, show setOf ((tupO o).take k ++ m ++ (tupO o).drop k) 4 = _ from s4, show setOf ((tupO o).take k ++ m ++ (tupO o).drop k) 5 = _ from s5]
    exact e0
  unfold getO
  rw [getL_encL _ hp hlen]
  simp only [he]
  rw [if_pos ho]
/-! The law's loops. -/
def E4 (x1 lv : AV) (k : Nat) (acc : AV) (i : Int) : Env := [.undef, x1, .undef, .ptr St.nil.next 0, .undef, .undef, .undef, .undef, .undef, .undef, lv, .undef, .int .i64 (k : Nat), acc, .int .i64 i, .undef, .undef, .undef, .undef, .undef, .undef, .undef, .undef, .undef, .undef, .undef, .undef, .undef, .undef, .undef, .undef, .undef, .undef, .undef, .undef, .undef, .undef, .undef, .undef, .undef, .undef, .undef, .undef, .undef, .undef, .undef, .undef, .undef, .undef, .undef, .undef, .undef, .undef, .undef, .undef, .undef, .undef, .undef, .undef, .undef, .undef, .undef, .undef, .undef, .undef, .undef, .undef, .undef, .undef, .undef, .undef, .undef, .undef, .undef, .undef, .undef, .undef, .undef, .undef, .undef, .undef, .undef, .undef, .undef, .undef, .undef, .undef, .undef, .undef, .undef, .undef, .undef, .undef, .undef, .undef, .undef, .undef, .undef, .undef, .undef, .undef, .undef, .undef, .undef, .undef, .undef, .undef, .undef, .undef, .undef, .undef, .undef, .undef, .undef, .undef, .undef, .undef, .undef, .undef, .undef, .undef, .undef, .undef, .undef, .undef, .undef, .undef, .undef, .undef, .undef, .undef, .undef, .undef, .undef, .undef, .undef, .undef, .undef, .undef, .undef]
def E4c (lv : AV) (k : Nat) (acc : AV) (w : List UInt8) (cl : Bool) (z i : Int) : Env := [.undef, .undef, .undef, .ptr St.nil.next 0, .undef, .undef, .undef, .undef, .undef, .undef, lv, .undef, .int .i64 (k : Nat), acc, .undef, .str w, .bool cl, .undef, .undef, .undef, .undef, .undef, .undef, .undef, .undef, .undef, .undef, .undef, .undef, .undef, .undef, .undef, .undef, .undef, .undef, .undef, .undef, .undef, .undef, .undef, .undef, .undef, .undef, .undef, .undef, .undef, .undef, .undef, .undef, .undef, .undef, .undef, .undef, .undef, .undef, .undef, .undef, .undef, .undef, .undef, .undef, .undef, .undef, .undef, .undef, .undef, .undef, .undef, .undef, .undef, .undef, .undef, .undef, .undef, .undef, .undef, .undef, .undef, .undef, .undef, .undef, .undef, .undef, .undef, .int .i64 z, .int .i64 i, .undef, .undef, .undef, .undef, .undef, .undef, .undef, .undef, .undef, .undef, .undef, .undef, .undef, .undef, .undef, .undef, .undef, .undef, .undef, .undef, .undef, .undef, .undef, .undef, .undef, .undef, .undef, .undef, .undef, .undef, .undef, .undef, .undef, .undef, .undef, .undef, .undef, .undef, .undef, .undef, .undef, .undef, .undef, .undef, .undef, .undef, .undef, .undef, .undef, .undef, .undef, .undef, .undef, .undef]
def E4d (lv : AV) (k : Nat) (acc : AV) (w : List UInt8) (cl : Bool) (a j : Int) (z i : Int) : Env := [.undef, .undef, .undef, .ptr St.nil.next 0, .undef, .undef, .undef, .undef, .undef, .undef, lv, .undef, .int .i64 (k : Nat), acc, .undef, .str w, .bool cl, .int .i64 a, .int .i64 j, .undef, .undef, .undef, .undef, .undef, .undef, .undef, .undef, .undef, .undef, .undef, .undef, .undef, .undef, .undef, .undef, .undef, .undef, .undef, .undef, .undef, .undef, .undef, .undef, .undef, .undef, .undef, .undef, .undef, .undef, .undef, .undef, .undef, .undef, .undef, .undef, .undef, .undef, .undef, .undef, .undef, .undef, .undef, .undef, .undef, .undef, .undef, .undef, .undef, .undef, .undef, .undef, .undef, .undef, .undef, .undef, .undef, .undef, .undef, .undef, .undef, .undef, .undef, .undef, .undef, .int .i64 z, .int .i64 i, .undef, .undef, .undef, .undef, .undef, .undef, .undef, .undef, .undef, .undef, .undef, .undef, .undef, .undef, .undef, .undef, .undef, .undef, .undef, .undef, .undef, .undef, .undef, .undef, .undef, .undef, .undef, .undef, .undef, .undef, .undef, .undef, .undef, .undef, .undef, .undef, .undef, .undef, .undef, .undef, .undef, .undef, .undef, .undef, .undef, .undef, .undef, .undef, .undef, .undef, .undef, .undef, .undef, .undef]
section
variable {lv acc : AV} {l m : List Tp} (hL : IsTp lv l) (hM : IsTp acc m) (hl : l.length ≤ 100) (hm : m.length ≤ 100) (k : Nat) (hk : k ≤ l.length) (w : List UInt8)
include hL hM hl hm hk
theorem clean_in (S : St) (a : Nat) (ha : a < m.length) (cl : Bool) :
    ∀ e, maskE M4b0l e = E4d lv k acc w cl (a : Int) (k : Int) (m.length : Nat) (a : Int) → ∃ e' cl', seqR (blockR 3 (blockR 4 (iter (evC tabGl (evK 999) 999 M4b0) M4b0l 999 e S))) (evC tabGl (evK 999) 999 M4r0) = some (.nrm, e', S) ∧ maskE M4b1l e' = E4c lv k acc w cl' (m.length : Nat) ((a + 1 : Nat) : Int) ∧ (cl' = true → cl = true ∧ ∀ j (hj : j < l.length), k ≤ j → m[a].1 ≠ l[j].1) := by
  have wd : IntKind.i64.wrap ((a : Int) + 1) = ((a + 1 : Nat) : Int) := (wrapI _ (by omega) (by omega)).trans (by omega)
  intro e he
  have ln := hL.len
  refine iter_leave (evC tabGl (evK 999) 999 M4b0) M4b0l (fun i e st => ∃ c : Bool, maskE M4b0l e = E4d lv k acc w c (a : Int) (i : Int) (m.length : Nat) (a : Int) ∧ st = S ∧ (c = true → cl = true ∧ ∀ j (hj : j < l.length), k ≤ j → j < i → m[a].1 ≠ l[j].1))
    (fun out => ∃ e' cl', seqR (blockR 3 (blockR 4 out)) (evC tabGl (evK 999) 999 M4r0) = some (.nrm, e', S) ∧ maskE M4b1l e' = E4c lv k acc w cl' (m.length : Nat) ((a + 1 : Nat) : Int) ∧ (cl' = true → cl = true ∧ ∀ j (hj : j < l.length), k ≤ j → m[a].1 ≠ l[j].1)) l.length ?_ ?_ (l.length - k) k _ _ 999 (by omega) ⟨cl, he, rfl, fun h => ⟨h, fun j hj h1 h2 => by omega⟩⟩ (by omega)
  · rintro i e st hi ⟨c, h1, rfl, h3⟩
    left
    rw [h1]
    obtain ⟨r, hr⟩ := hL.ixa i hi
    obtain ⟨r2, hr2⟩ := hM.ixa a ha
    obtain ⟨⟨b, val⟩, hx⟩ : ∃ t, l[i] = t := ⟨_, rfl⟩
    obtain ⟨⟨b2, val2⟩, hx2⟩ : ∃ t, m[a] = t := ⟨_, rfl⟩
    rw [hx] at hr
    rw [hx2] at hr2 h3 ⊢
    simp only at hr hr2 h3
    have d0 : decide ((i : Int) < (l.length : Nat)) = true := decide_eq_true (by omega)
    have w1 : IntKind.i64.wrap ((i : Int) + 1) = ((i + 1 : Nat) : Int) := (wrapI _ (by omega) (by omega)).trans (by omega)
    have c0 : Ab.cut (.int .i64 b :: .str val :: r) 0 none = some (.int .i64 b) := by simp [Ab.cut]
    have f0 : faV 0 (.rp (.int .i64 b :: .str val :: r)) = some (.rp (.int .i64 b :: .str val :: r)) := faV_rp _ _ (by simp)
    have c2 : Ab.cut (.int .i64 b2 :: .str val2 :: r2) 0 none = some (.int .i64 b2) := by simp [Ab.cut]
    have f2 : faV 0 (.rp (.int .i64 b2 :: .str val2 :: r2)) = some (.rp (.int .i64 b2 :: .str val2 :: r2)) := faV_rp _ _ (by simp)
    cases c with
    | false =>
      rw [show st = st.pl [] from rfl]
      simp only [M4b0, E4d, ln, hr, hr2, c0, f0, c2, f2, d0, w1, loadR_rp, qES0, qES1, qES2, env0, List.length_cons, List.length_nil, Nat.reduceAdd, Nat.reduceSub, List.replicate, List.cons_append, List.nil_append, opd, Env.put, Env.at, List.set_cons_zero, List.set_cons_succ, List.getD_cons_zero, List.getD_cons_succ, freezeL, resVs, oneOr, Option.map_some, Option.map_none, List.map_cons, List.map_nil, if_true, if_false, Bool.not_true, Bool.not_false, Bool.false_eq_true, reduceIte, decide_true, decide_false, Int.reduceLT, Int.reduceLE, Int.reduceGT, Int.reduceGE, Int.reduceEq, Int.reduceBEq, Int.reduceBNe, load_ptr, ldV_some, cellAt_cells, List.getElem?_cons_zero, List.getElem?_cons_succ, store_ptr, stO_some, setAt_0, setAt_1, setAt_2, setAt_3, setAt_4, setAt_5, setAt_6, setAt_7, setAt_8, setAt_9, setAt_10, setAt_11, setAt_12, cells_int, cells_bool, cells_str, cells_nils, cells_nilp, cells_ptr, cells_sl, cells_u8, cells_u16, cells_agg, get_upd_is, Option.isSome_some, upd_upd, ev1_nchkV, ev1_faV, nchkV_ptr, faV_ptr, ev1_extV, extV_tup, eqptr_nil, eqptr_ptr, Nat.zero_add, Nat.add_zero, qPL0, qPL1, qPL2, qPL3, qPL4, qPL5, beq_self_eq_true, qED0, qED1, placeR]
      rw [drawR_ok]; case h => simp (config := { decide := true }) [calm, calmPair, calmTwo, List.range, List.range.loop, sameO_refl, plg0]
      simp only [w1, qES0, qES1, qES2, env0, List.length_cons, List.length_nil, Nat.reduceAdd, Nat.reduceSub, List.replicate, List.cons_append, List.nil_append, opd, Env.put, Env.at, List.set_cons_zero, List.set_cons_succ, List.getD_cons_zero, List.getD_cons_succ, freezeL, resVs, oneOr, Option.map_some, Option.map_none, List.map_cons, List.map_nil, if_true, if_false, Bool.not_true, Bool.not_false, Bool.false_eq_true, reduceIte, decide_true, decide_false, Int.reduceLT, Int.reduceLE, Int.reduceGT, Int.reduceGE, Int.reduceEq, Int.reduceBEq, Int.reduceBNe, load_ptr, ldV_some, cellAt_cells, List.getElem?_cons_zero, List.getElem?_cons_succ, store_ptr, stO_some, setAt_0, setAt_1, setAt_2, setAt_3, setAt_4, setAt_5, setAt_6, setAt_7, setAt_8, setAt_9, setAt_10, setAt_11, setAt_12, cells_int, cells_bool, cells_str, cells_nils, cells_nilp, cells_ptr, cells_sl, cells_u8, cells_u16, cells_agg, get_upd_is, Option.isSome_some, upd_upd, ev1_nchkV, ev1_faV, nchkV_ptr, faV_ptr, ev1_extV, extV_tup, eqptr_nil, eqptr_ptr, Nat.zero_add, Nat.add_zero, qPL0, qPL1, qPL2, qPL3, qPL4, qPL5, beq_self_eq_true, qED0, qED1, placeR]
      exact ⟨_, _, rfl, false, rfl, rfl, fun h => by cases h⟩
    | true =>
      obtain ⟨q, hq⟩ : ∃ q, (b2 != b) = q := ⟨_, rfl⟩
      rw [show st = st.pl [] from rfl]
      simp only [M4b0, E4d, ln, hr, hr2, c0, f0, c2, f2, d0, w1, hq, loadR_rp, qES0, qES1, qES2, env0, List.length_cons, List.length_nil, Nat.reduceAdd, Nat.reduceSub, List.replicate, List.cons_append, List.nil_append, opd, Env.put, Env.at, List.set_cons_zero, List.set_cons_succ, List.getD_cons_zero, List.getD_cons_succ, freezeL, resVs, oneOr, Option.map_some, Option.map_none, List.map_cons, List.map_nil, if_true, if_false, Bool.not_true, Bool.not_false, Bool.false_eq_true, reduceIte, decide_true, decide_false, Int.reduceLT, Int.reduceLE, Int.reduceGT, Int.reduceGE, Int.reduceEq, Int.reduceBEq, Int.reduceBNe, load_ptr, ldV_some, cellAt_cells, List.getElem?_cons_zero, List.getElem?_cons_succ, store_ptr, stO_some, setAt_0, setAt_1, setAt_2, setAt_3, setAt_4, setAt_5, setAt_6, setAt_7, setAt_8, setAt_9, setAt_10, setAt_11, setAt_12, cells_int, cells_bool, cells_str, cells_nils, cells_nilp, cells_ptr, cells_sl, cells_u8, cells_u16, cells_agg, get_upd_is, Option.isSome_some, upd_upd, ev1_nchkV, ev1_faV, nchkV_ptr, faV_ptr, ev1_extV, extV_tup, eqptr_nil, eqptr_ptr, Nat.zero_add, Nat.add_zero, qPL0, qPL1, qPL2, qPL3, qPL4, qPL5, beq_self_eq_true, qED0, qED1, placeR]
      rw [drawR_ok]; case h => simp (config := { decide := true }) [calm, calmPair, calmTwo, List.range, List.range.loop, sameO_refl, plg0]
      simp only [w1, qES0, qES1, qES2, env0, List.length_cons, List.length_nil, Nat.reduceAdd, Nat.reduceSub, List.replicate, List.cons_append, List.nil_append, opd, Env.put, Env.at, List.set_cons_zero, List.set_cons_succ, List.getD_cons_zero, List.getD_cons_succ, freezeL, resVs, oneOr, Option.map_some, Option.map_none, List.map_cons, List.map_nil, if_true, if_false, Bool.not_true, Bool.not_false, Bool.false_eq_true, reduceIte, decide_true, decide_false, Int.reduceLT, Int.reduceLE, Int.reduceGT, Int.reduceGE, Int.reduceEq, Int.reduceBEq, Int.reduceBNe, load_ptr, ldV_some, cellAt_cells, List.getElem?_cons_zero, List.getElem?_cons_succ, store_ptr, stO_some, setAt_0, setAt_1, setAt_2, setAt_3, setAt_4, setAt_5, setAt_6, setAt_7, setAt_8, setAt_9, setAt_10, setAt_11, setAt_12, cells_int, cells_bool, cells_str, cells_nils, cells_nilp, cells_ptr, cells_sl, cells_u8, cells_u16, cells_agg, get_upd_is, Option.isSome_some, upd_upd, ev1_nchkV, ev1_faV, nchkV_ptr, faV_ptr, ev1_extV, extV_tup, eqptr_nil, eqptr_ptr, Nat.zero_add, Nat.add_zero, qPL0, qPL1, qPL2, qPL3, qPL4, qPL5, beq_self_eq_true, qED0, qED1, placeR]
      refine ⟨_, _, rfl, q, rfl, rfl, fun h => ⟨(h3 rfl).1, fun j hj h1 h2 => ?_⟩⟩
      by_cases hji : j < i
      · exact (h3 rfl).2 j hj h1 hji
      · have : j = i := by omega
        subst this
        rw [hx]
        rw [h] at hq
        simpa using hq
  · rintro e st ⟨c, h1, rfl, h3⟩
    rw [h1]
    have d0 : decide (((l.length : Nat) : Int) < ((l.length : Nat) : Int)) = false := decide_eq_false (by omega)
    refine ⟨?_, fun e' s' hh => ?_⟩
    · simp only [M4b0, M4r0, E4d, ln, d0, wd, qES0, qES1, qES2, env0, List.length_cons, List.length_nil, Nat.reduceAdd, Nat.reduceSub, List.replicate, List.cons_append, List.nil_append, opd, Env.put, Env.at, List.set_cons_zero, List.set_cons_succ, List.getD_cons_zero, List.getD_cons_succ, freezeL, resVs, oneOr, Option.map_some, Option.map_none, List.map_cons, List.map_nil, if_true, if_false, Bool.not_true, Bool.not_false, Bool.false_eq_true, reduceIte, decide_true, decide_false, Int.reduceLT, Int.reduceLE, Int.reduceGT, Int.reduceGE, Int.reduceEq, Int.reduceBEq, Int.reduceBNe, load_ptr, ldV_some, cellAt_cells, List.getElem?_cons_zero, List.getElem?_cons_succ, store_ptr, stO_some, setAt_0, setAt_1, setAt_2, setAt_3, setAt_4, setAt_5, setAt_6, setAt_7, setAt_8, setAt_9, setAt_10, setAt_11, setAt_12, cells_int, cells_bool, cells_str, cells_nils, cells_nilp, cells_ptr, cells_sl, cells_u8, cells_u16, cells_agg, get_upd_is, Option.isSome_some, upd_upd, ev1_nchkV, ev1_faV, nchkV_ptr, faV_ptr, ev1_extV, extV_tup, eqptr_nil, eqptr_ptr, Nat.zero_add, Nat.add_zero, qPL0, qPL1, qPL2, qPL3, qPL4, qPL5, beq_self_eq_true]
      exact ⟨_, c, rfl, rfl, fun h => ⟨(h3 h).1, fun j hj hk => (h3 h).2 j hj hk hj⟩⟩
    · simp only [M4b0, E4d, ln, d0, qES0, qES1, qES2, env0, List.length_cons, List.length_nil, Nat.reduceAdd, Nat.reduceSub, List.replicate, List.cons_append, List.nil_append, opd, Env.put, Env.at, List.set_cons_zero, List.set_cons_succ, List.getD_cons_zero, List.getD_cons_succ, freezeL, resVs, oneOr, Option.map_some, Option.map_none, List.map_cons, List.map_nil, if_true, if_false, Bool.not_true, Bool.not_false, Bool.false_eq_true, reduceIte, decide_true, decide_false, Int.reduceLT, Int.reduceLE, Int.reduceGT, Int.reduceGE, Int.reduceEq, Int.reduceBEq, Int.reduceBNe, load_ptr, ldV_some, cellAt_cells, List.getElem?_cons_zero, List.getElem?_cons_succ, store_ptr, stO_some, setAt_0, setAt_1, setAt_2, setAt_3, setAt_4, setAt_5, setAt_6, setAt_7, setAt_8, setAt_9, setAt_10, setAt_11, setAt_12, cells_int, cells_bool, cells_str, cells_nils, cells_nilp, cells_ptr, cells_sl, cells_u8, cells_u16, cells_agg, get_upd_is, Option.isSome_some, upd_upd, ev1_nchkV, ev1_faV, nchkV_ptr, faV_ptr, ev1_extV, extV_tup, eqptr_nil, eqptr_ptr, Nat.zero_add, Nat.add_zero, qPL0, qPL1, qPL2, qPL3, qPL4, qPL5, beq_self_eq_true] at hh
      cases hh
theorem clean_out (o : Of5) (S : St) (hg : S.get St.nil.next = some (.cells 0 o.cells)) (hlt : St.nil.next < S.next)
    (hc : (∀ t ∈ m, ∀ j (hj : j < l.length), k ≤ j → t.1 ≠ l[j].1) → getO w = some o) :
    ∀ e, maskE M4b1l e = E4c lv k acc w true (m.length : Nat) 0 → valR (outR M4.res (seqR (blockR 2 (iter (evC tabGl (evK 999) 999 M4b1) M4b1l 999 e S)) (evC tabGl (evK 999) 999 M4r1))) = some (.bool true) := by
  intro e he
  refine iter_leave (evC tabGl (evK 999) 999 M4b1) M4b1l (fun i e st => ∃ c : Bool, maskE M4b1l e = E4c lv k acc w c (m.length : Nat) (i : Int) ∧ st = S ∧ (c = true → ∀ a (ha : a < m.length), a < i → ∀ j (hj : j < l.length), k ≤ j → m[a].1 ≠ l[j].1))
    (fun out => valR (outR M4.res (seqR (blockR 2 out) (evC tabGl (evK 999) 999 M4r1))) = some (.bool true)) m.length ?_ ?_ m.length 0 _ _ 999 (by omega) ⟨true, he, rfl, fun _ a _ h => by omega⟩ (by omega)
  · rintro i e st hi ⟨c, h1, rfl, h3⟩
    left
    rw [h1]
    have d0 : decide ((i : Int) < (m.length : Nat)) = true := decide_eq_true (by omega)
    have key : ∀ e, maskE M4b0l e = E4d lv k acc w c (i : Int) (k : Int) (m.length : Nat) (i : Int) → ∃ e' s', seqR (blockR 3 (blockR 4 (iter (evC tabGl (evK 999) 999 M4b0) M4b0l 999 e st))) (evC tabGl (evK 999) 999 M4r0) = some (.nrm, e', s') ∧ ∃ c : Bool, maskE M4b1l e' = E4c lv k acc w c (m.length : Nat) ((i + 1 : Nat) : Int) ∧ s' = st ∧ (c = true → ∀ a (ha : a < m.length), a < i + 1 → ∀ j (hj : j < l.length), k ≤ j → m[a].1 ≠ l[j].1) := by
      intro e he
      obtain ⟨e', c', q1, q2, q3⟩ := clean_in hL hM hl hm k hk w st i hi c e he
      refine ⟨e', st, q1, c', q2, rfl, fun h a ha hai j hj hkj => ?_⟩
      by_cases haj : a < i
      · exact h3 (q3 h).1 a ha haj j hj hkj
      · have : a = i := by omega
        subst this
        exact (q3 h).2 j hj hkj
    simp only [M4b1, E4c, d0, evC_loop, qES0, qES1, qES2, env0, List.length_cons, List.length_nil, Nat.reduceAdd, Nat.reduceSub, List.replicate, List.cons_append, List.nil_append, opd, Env.put, Env.at, List.set_cons_zero, List.set_cons_succ, List.getD_cons_zero, List.getD_cons_succ, freezeL, resVs, oneOr, Option.map_some, Option.map_none, List.map_cons, List.map_nil, if_true, if_false, Bool.not_true, Bool.not_false, Bool.false_eq_true, reduceIte, decide_true, decide_false, Int.reduceLT, Int.reduceLE, Int.reduceGT, Int.reduceGE, Int.reduceEq, Int.reduceBEq, Int.reduceBNe, load_ptr, ldV_some, cellAt_cells, List.getElem?_cons_zero, List.getElem?_cons_succ, store_ptr, stO_some, setAt_0, setAt_1, setAt_2, setAt_3, setAt_4, setAt_5, setAt_6, setAt_7, setAt_8, setAt_9, setAt_10, setAt_11, setAt_12, cells_int, cells_bool, cells_str, cells_nils, cells_nilp, cells_ptr, cells_sl, cells_u8, cells_u16, cells_agg, get_upd_is, Option.isSome_some, upd_upd, ev1_nchkV, ev1_faV, nchkV_ptr, faV_ptr, ev1_extV, extV_tup, eqptr_nil, eqptr_ptr, Nat.zero_add, Nat.add_zero, qPL0, qPL1, qPL2, qPL3, qPL4, qPL5, beq_self_eq_true]
    exact key _ rfl
  · rintro e st ⟨c, h1, rfl, h3⟩
    rw [h1]
    have d0 : decide (((m.length : Nat) : Int) < (m.length : Nat)) = false := decide_eq_false (by omega)
    have gq : ∀ l, (st.pl l).get St.nil.next = _ := fun l => ((pl_ext st l).get _ hlt).trans hg
    refine ⟨?_, fun e' s' hh => ?_⟩
    · have h38 := k38 998 w
      have h39 := k39 998 w
      rw [show st = st.pl [] from rfl]
      rcases hgo : getO w with _ | p
      · rw [hgo] at h38 h39
        have cf : c = false := by
          cases c with
          | false => rfl
          | true =>
            have := hc (fun t ht j hj hkj => by
              obtain ⟨a, ha, rfl⟩ := List.getElem_of_mem ht
              exact h3 rfl a ha ha j hj hkj)
            rw [hgo] at this; cases this
        subst cf
        have q5 := eq5 0 0 0 0 0
        have qb := eqB false
        simp only [getOV, ofC] at h38 h39
        simp only [M4, M4r1, M4b1, E4c, d0, h38, h39, q5, qb, ev1_eqv, ev1_extV, qES0, qES1, qES2, env0, List.length_cons, List.length_nil, Nat.reduceAdd, Nat.reduceSub, List.replicate, List.cons_append, List.nil_append, opd, Env.put, Env.at, List.set_cons_zero, List.set_cons_succ, List.getD_cons_zero, List.getD_cons_succ, freezeL, resVs, oneOr, Option.map_some, Option.map_none, List.map_cons, List.map_nil, if_true, if_false, Bool.not_true, Bool.not_false, Bool.false_eq_true, reduceIte, decide_true, decide_false, Int.reduceLT, Int.reduceLE, Int.reduceGT, Int.reduceGE, Int.reduceEq, Int.reduceBEq, Int.reduceBNe, load_ptr, ldV_some, cellAt_cells, List.getElem?_cons_zero, List.getElem?_cons_succ, store_ptr, stO_some, setAt_0, setAt_1, setAt_2, setAt_3, setAt_4, setAt_5, setAt_6, setAt_7, setAt_8, setAt_9, setAt_10, setAt_11, setAt_12, cells_int, cells_bool, cells_str, cells_nils, cells_nilp, cells_ptr, cells_sl, cells_u8, cells_u16, cells_agg, get_upd_is, Option.isSome_some, upd_upd, ev1_nchkV, ev1_faV, nchkV_ptr, faV_ptr, ev1_extV, extV_tup, eqptr_nil, eqptr_ptr, Nat.zero_add, Nat.add_zero, qPL0, qPL1, qPL2, qPL3, qPL4, qPL5, beq_self_eq_true]
      · rw [hgo] at h38 h39
        obtain ⟨b, s, w0, z, t⟩ := p
        have q5 := eq5 b s w0 z t
        have qb := eqB true
        simp only [getOV, Of5.cells, ofC] at h38 h39
        cases c with
        | false => simp only [M4, M4r1, M4b1, E4c, d0, h38, h39, q5, qb, ev1_eqv, ev1_extV, qES0, qES1, qES2, env0, List.length_cons, List.length_nil, Nat.reduceAdd, Nat.reduceSub, List.replicate, List.cons_append, List.nil_append, opd, Env.put, Env.at, List.set_cons_zero, List.set_cons_succ, List.getD_cons_zero, List.getD_cons_succ, freezeL, resVs, oneOr, Option.map_some, Option.map_none, List.map_cons, List.map_nil, if_true, if_false, Bool.not_true, Bool.not_false, Bool.false_eq_true, reduceIte, decide_true, decide_false, Int.reduceLT, Int.reduceLE, Int.reduceGT, Int.reduceGE, Int.reduceEq, Int.reduceBEq, Int.reduceBNe, load_ptr, ldV_some, cellAt_cells, List.getElem?_cons_zero, List.getElem?_cons_succ, store_ptr, stO_some, setAt_0, setAt_1, setAt_2, setAt_3, setAt_4, setAt_5, setAt_6, setAt_7, setAt_8, setAt_9, setAt_10, setAt_11, setAt_12, cells_int, cells_bool, cells_str, cells_nils, cells_nilp, cells_ptr, cells_sl, cells_u8, cells_u16, cells_agg, get_upd_is, Option.isSome_some, upd_upd, ev1_nchkV, ev1_faV, nchkV_ptr, faV_ptr, ev1_extV, extV_tup, eqptr_nil, eqptr_ptr, Nat.zero_add, Nat.add_zero, qPL0, qPL1, qPL2, qPL3, qPL4, qPL5, beq_self_eq_true]
        | true =>
          have hpo := hc (fun t ht j hj hkj => by
              obtain ⟨a, ha, rfl⟩ := List.getElem_of_mem ht
              exact h3 rfl a ha ha j hj hkj)
          rw [hgo] at hpo
          cases hpo
          simp only [Of5.cells, ofC] at gq
          simp only [M4, M4r1, M4b1, E4c, d0, h38, h39, q5, qb, gq, ev1_eqv, ev1_extV, qES0, qES1, qES2, env0, List.length_cons, List.length_nil, Nat.reduceAdd, Nat.reduceSub, List.replicate, List.cons_append, List.nil_append, opd, Env.put, Env.at, List.set_cons_zero, List.set_cons_succ, List.getD_cons_zero, List.getD_cons_succ, freezeL, resVs, oneOr, Option.map_some, Option.map_none, List.map_cons, List.map_nil, if_true, if_false, Bool.not_true, Bool.not_false, Bool.false_eq_true, reduceIte, decide_true, decide_false, Int.reduceLT, Int.reduceLE, Int.reduceGT, Int.reduceGE, Int.reduceEq, Int.reduceBEq, Int.reduceBNe, load_ptr, ldV_some, cellAt_cells, List.getElem?_cons_zero, List.getElem?_cons_succ, store_ptr, stO_some, setAt_0, setAt_1, setAt_2, setAt_3, setAt_4, setAt_5, setAt_6, setAt_7, setAt_8, setAt_9, setAt_10, setAt_11, setAt_12, cells_int, cells_bool, cells_str, cells_nils, cells_nilp, cells_ptr, cells_sl, cells_u8, cells_u16, cells_agg, get_upd_is, Option.isSome_some, upd_upd, ev1_nchkV, ev1_faV, nchkV_ptr, faV_ptr, ev1_extV, extV_tup, eqptr_nil, eqptr_ptr, Nat.zero_add, Nat.add_zero, qPL0, qPL1, qPL2, qPL3, qPL4, qPL5, beq_self_eq_true]
    · simp only [M4b1, E4c, d0, qES0, qES1, qES2, env0, List.length_cons, List.length_nil, Nat.reduceAdd, Nat.reduceSub, List.replicate, List.cons_append, List.nil_append, opd, Env.put, Env.at, List.set_cons_zero, List.set_cons_succ, List.getD_cons_zero, List.getD_cons_succ, freezeL, resVs, oneOr, Option.map_some, Option.map_none, List.map_cons, List.map_nil, if_true, if_false, Bool.not_true, Bool.not_false, Bool.false_eq_true, reduceIte, decide_true, decide_false, Int.reduceLT, Int.reduceLE, Int.reduceGT, Int.reduceGE, Int.reduceEq, Int.reduceBEq, Int.reduceBNe, load_ptr, ldV_some, cellAt_cells, List.getElem?_cons_zero, List.getElem?_cons_succ, store_ptr, stO_some, setAt_0, setAt_1, setAt_2, setAt_3, setAt_4, setAt_5, setAt_6, setAt_7, setAt_8, setAt_9, setAt_10, setAt_11, setAt_12, cells_int, cells_bool, cells_str, cells_nils, cells_nilp, cells_ptr, cells_sl, cells_u8, cells_u16, cells_agg, get_upd_is, Option.isSome_some, upd_upd, ev1_nchkV, ev1_faV, nchkV_ptr, faV_ptr, ev1_extV, extV_tup, eqptr_nil, eqptr_ptr, Nat.zero_add, Nat.add_zero, qPL0, qPL1, qPL2, qPL3, qPL4, qPL5, beq_self_eq_true] at hh
      cases hh
end
theorem qmore_loop (o : Of5) (ho : o.may) (k : Nat) (hk : k < 6) (x1 : AV) (l : List Tp) (hI : IsTp x1 l) (st : St) (hg : st.get St.nil.next = some (.cells 0 o.cells)) (hlt : St.nil.next < st.next) :
    ∀ e, maskE M4b2l e = E4 x1 (.sl (tpC (tupO o)) 5 none) k .nils 0 → valR (outR M4.res (seqR (blockR 0 (iter (evC tabGl (evK 999) 999 M4b2) M4b2l 999 e st)) (evC tabGl (evK 999) 999 M4r2))) = some (.bool true) := by
  intro e he
  have ln := hI.len
  refine iter_leave (evC tabGl (evK 999) 999 M4b2) M4b2l (fun i e s => ∃ acc, maskE M4b2l e = E4 x1 (.sl (tpC (tupO o)) 5 none) k acc (i : Int) ∧ OwnG 2 s acc (tpC (cutT 9 (l.take i))) (cutT 9 (l.take i)).length ∧ s.get St.nil.next = some (.cells 0 o.cells) ∧ St.nil.next < s.next)
    (fun out => valR (outR M4.res (seqR (blockR 0 out) (evC tabGl (evK 999) 999 M4r2))) = some (.bool true)) (min l.length 3) ?_ ?_ (min l.length 3) 0 _ _ 999 (by omega) ⟨.nils, he, OwnG.nil _ _, hg, hlt⟩ (by omega)
  · rintro i e s hi ⟨acc, h1, h2, h3, h4⟩
    rw [h1]
    left
    have hil : i < l.length := by omega
    obtain ⟨r, hr⟩ := hI.ixa i hil
    obtain ⟨⟨id, val⟩, hx'⟩ : ∃ t, l[i] = t := ⟨_, rfl⟩
    have hcs := cutT_succ 9 l i hil
    rw [hx'] at hr hcs
    have d0 : decide ((i : Int) < (l.length : Nat)) = true := decide_eq_true (by omega)
    have d1 : decide ((i : Int) < 3) = true := decide_eq_true (by omega)
    have w1 : IntKind.i64.wrap ((i : Int) + 1) = ((i + 1 : Nat) : Int) := (wrapI _ (by omega) (by omega)).trans (by omega)
    have c0 : Ab.cut (.int .i64 id :: .str val :: r) 0 none = some (.int .i64 id) := by simp [Ab.cut]
    have c1 : Ab.cut (.str val :: r) 0 none = some (.str val) := by simp [Ab.cut]
    have f0 : faV 0 (.rp (.int .i64 id :: .str val :: r)) = some (.rp (.int .i64 id :: .str val :: r)) := faV_rp _ _ (by simp)
    have f1 : faV 1 (.rp (.int .i64 id :: .str val :: r)) = some (.rp (.str val :: r)) := faV_rp _ _ (by simp)
    have tx : ∀ s, evK (998 + 1) 22 [.str val, .int .i64 9] s = some (.str (val.take 9), s) := k22 998 val 9
    have hlen : (cutT 9 (l.take i)).length ≤ 3 := by rw [cutT_len, List.length_take]; omega
    obtain ⟨z1, S1, a1, a2, a3⟩ := (h2.ext (pl_ext s [.tick 2 0])).app (bytes := 24) (y := .sl [.int .i64 id, .str (val.take 9)] 1 (some (s.next, 0, 2))) (ds := [.int .i64 id, .str (val.take 9)]) (m := 1) rfl rfl (by decide) (by simp [fits]; omega)
    have k1 : S1.get St.nil.next = some (.cells 0 o.cells) := a3.2 _ _ _ (by rw [pl_next]; omega) (((pl_ext s _).get _ h4).trans h3)
    have k2 : St.nil.next < S1.next := by have := a3.1; rw [pl_next] at this; omega
    rw [show s = s.pl [] from rfl]
    simp only [M4b2, E4, ln, hr, c0, c1, f0, f1, d0, d1, w1, tx, a1, ev1_build, loadR_rp, qES0, qES1, qES2, env0, List.length_cons, List.length_nil, Nat.reduceAdd, Nat.reduceSub, List.replicate, List.cons_append, List.nil_append, opd, Env.put, Env.at, List.set_cons_zero, List.set_cons_succ, List.getD_cons_zero, List.getD_cons_succ, freezeL, resVs, oneOr, Option.map_some, Option.map_none, List.map_cons, List.map_nil, if_true, if_false, Bool.not_true, Bool.not_false, Bool.false_eq_true, reduceIte, decide_true, decide_false, Int.reduceLT, Int.reduceLE, Int.reduceGT, Int.reduceGE, Int.reduceEq, Int.reduceBEq, Int.reduceBNe, load_ptr, ldV_some, cellAt_cells, List.getElem?_cons_zero, List.getElem?_cons_succ, store_ptr, stO_some, setAt_0, setAt_1, setAt_2, setAt_3, setAt_4, setAt_5, setAt_6, setAt_7, setAt_8, setAt_9, setAt_10, setAt_11, setAt_12, cells_int, cells_bool, cells_str, cells_nils, cells_nilp, cells_ptr, cells_sl, cells_u8, cells_u16, cells_agg, get_upd_is, Option.isSome_some, upd_upd, ev1_nchkV, ev1_faV, nchkV_ptr, faV_ptr, ev1_extV, extV_tup, eqptr_nil, eqptr_ptr, Nat.zero_add, Nat.add_zero, qPL0, qPL1, qPL2, qPL3, qPL4, qPL5, beq_self_eq_true, qED0, qED1, placeR]
    rw [drawR_ok]; case h => simp (config := { decide := true }) [calm, calmPair, calmTwo, List.range, List.range.loop, sameO_refl, plg0]
    simp only [w1, qES0, qES1, qES2, env0, List.length_cons, List.length_nil, Nat.reduceAdd, Nat.reduceSub, List.replicate, List.cons_append, List.nil_append, opd, Env.put, Env.at, List.set_cons_zero, List.set_cons_succ, List.getD_cons_zero, List.getD_cons_succ, freezeL, resVs, oneOr, Option.map_some, Option.map_none, List.map_cons, List.map_nil, if_true, if_false, Bool.not_true, Bool.not_false, Bool.false_eq_true, reduceIte, decide_true, decide_false, Int.reduceLT, Int.reduceLE, Int.reduceGT, Int.reduceGE, Int.reduceEq, Int.reduceBEq, Int.reduceBNe, load_ptr, ldV_some, cellAt_cells, List.getElem?_cons_zero, List.getElem?_cons_succ, store_ptr, stO_some, setAt_0, setAt_1, setAt_2, setAt_3, setAt_4, setAt_5, setAt_6, setAt_7, setAt_8, setAt_9, setAt_10, setAt_11, setAt_12, cells_int, cells_bool, cells_str, cells_nils, cells_nilp, cells_ptr, cells_sl, cells_u8, cells_u16, cells_agg, get_upd_is, Option.isSome_some, upd_upd, ev1_nchkV, ev1_faV, nchkV_ptr, faV_ptr, ev1_extV, extV_tup, eqptr_nil, eqptr_ptr, Nat.zero_add, Nat.add_zero, qPL0, qPL1, qPL2, qPL3, qPL4, qPL5, beq_self_eq_true, qED0, qED1, placeR]
    refine ⟨_, _, rfl, z1, rfl, ?_, k1, k2⟩
    rw [hcs, tpC_append, List.length_append]
    exact a2
  · rintro e s ⟨acc, h1, h2, h3, h4⟩
    rw [h1]
    obtain ⟨m, hmm⟩ : ∃ m, cutT 9 (l.take (min l.length 3)) = m := ⟨_, rfl⟩
    have hml : m.length ≤ 3 := by rw [← hmm, cutT_len, List.length_take]; omega
    rw [hmm] at h2
    have hIm : IsTp acc m := ownG_isTp h2 rfl
    have lm := hIm.len
    have dd : decide (((min l.length 3 : Nat) : Int) < (l.length : Nat)) = true ∧ decide (((min l.length 3 : Nat) : Int) < 3) = false ∨ decide (((min l.length 3 : Nat) : Int) < (l.length : Nat)) = false := by
      by_cases g : l.length ≤ 3
      · exact .inr (decide_eq_false (by omega))
      · exact .inl ⟨decide_eq_true (by omega), decide_eq_false (by omega)⟩
    generalize ((min l.length 3 : Nat) : Int) = q at dd
    have h5 : (tupO o).length = 5 := rfl
    have hlo := tp_slo (tupO o) k (by omega)
    have hhi := tp_shi (tupO o) k (by omega)
    rw [h5] at hlo hhi
    have htl : ((tupO o).take k).length = k := by rw [List.length_take]; omega
    have hdl : ((tupO o).drop k).length = 5 - k := by rw [List.length_drop]; omega
    obtain ⟨z1, S1, a1, b1, e1⟩ := ownG_appz (OwnG.nil 2 s) (bytes := 24) (y := .sl (tpC ((tupO o).take k)) k none) (ds := tpC ((tupO o).take k)) (m := k) (by simp [newsOf, tpC_length, htl]) (by rw [tpC_length, htl]) (by simp [fits]; omega)
    obtain ⟨z2, S2, a2, b2, e2⟩ := ownG_appz b1 (bytes := 24) (y := acc) (ds := tpC m) (m := m.length) (news_tp hIm _) (by rw [tpC_length]) (by simp [fits]; omega)
    obtain ⟨z3, S3, a3, b3, e3⟩ := ownG_appz b2 (bytes := 24) (y := .sl (tpC ((tupO o).drop k)) (5 - k) none) (ds := tpC ((tupO o).drop k)) (m := 5 - k) (by simp [newsOf, tpC_length, hdl]) (by rw [tpC_length, hdl]) (by simp [fits]; omega)
    obtain ⟨L, hL⟩ : ∃ L, (tupO o).take k ++ m ++ (tupO o).drop k = L := ⟨_, rfl⟩
    have hI3 : IsTp z3 L := by
      refine ownG_isTp (s := S3) (n := 0 + k + m.length + (5 - k)) ?_ ?_
      · rw [← hL, tpC_append, tpC_append]; exact b3
      · rw [← hL, List.length_append, List.length_append, htl, hdl]; omega
    have hLl : L.length ≤ 100 := by rw [← hL, List.length_append, List.length_append, htl, hdl]; omega
    have fz := hI3.freeze
    have h41 := k41 998 hI3 hLl
    have eK := (e1.trans e2).trans e3
    have g3 : S3.get St.nil.next = some (.cells 0 o.cells) := eK.2 _ _ _ h4 h3
    have n3 : St.nil.next < S3.next := Nat.lt_of_lt_of_le h4 eK.1
    refine ⟨?_, fun e' s' hh => ?_⟩
    · by_cases hp : putOk L
      · rw [if_pos hp, decide_eq_true hp] at h41
        have key := clean_out (lv := .sl (tpC (tupO o)) 5 none) (acc := acc) (l := tupO o) (m := m) (.inr ⟨none, rfl⟩) hIm (by rw [h5]; omega) (by omega) k (by rw [h5]; omega) (encL L) o S3 g3 n3 (fun hc => by
          rw [← hL] at hp ⊢
          refine getO_mid o ho m k hk hml hp (fun t ht j hkj hj => ?_)
          have := hc t ht j (by rw [h5]; exact hj) hkj
          obtain ⟨v, hv⟩ := tupO_id o j hj
          rw [List.getElem?_eq_getElem (by rw [h5]; exact hj)] at hv
          rw [Option.some.inj hv] at this
          exact this)
        generalize tpC (tupO o) = T at *
        generalize tpC ((tupO o).take k) = T1 at *
        generalize tpC ((tupO o).drop k) = T2 at *
        generalize encL L = w at *
        rcases dd with ⟨d1, d2⟩ | d1
        · simp only [M4, M4r2, M4b2, E4, ln, lm, d1, d2, hlo, hhi, a1, a2, a3, h41, fz, evC_loop, ev1_extV, qES0, qES1, qES2, env0, List.length_cons, List.length_nil, Nat.reduceAdd, Nat.reduceSub, List.replicate, List.cons_append, List.nil_append, opd, Env.put, Env.at, List.set_cons_zero, List.set_cons_succ, List.getD_cons_zero, List.getD_cons_succ, freezeL, resVs, oneOr, Option.map_some, Option.map_none, List.map_cons, List.map_nil, if_true, if_false, Bool.not_true, Bool.not_false, Bool.false_eq_true, reduceIte, decide_true, decide_false, Int.reduceLT, Int.reduceLE, Int.reduceGT, Int.reduceGE, Int.reduceEq, Int.reduceBEq, Int.reduceBNe, load_ptr, ldV_some, cellAt_cells, List.getElem?_cons_zero, List.getElem?_cons_succ, store_ptr, stO_some, setAt_0, setAt_1, setAt_2, setAt_3, setAt_4, setAt_5, setAt_6, setAt_7, setAt_8, setAt_9, setAt_10, setAt_11, setAt_12, cells_int, cells_bool, cells_str, cells_nils, cells_nilp, cells_ptr, cells_sl, cells_u8, cells_u16, cells_agg, get_upd_is, Option.isSome_some, upd_upd, ev1_nchkV, ev1_faV, nchkV_ptr, faV_ptr, ev1_extV, extV_tup, eqptr_nil, eqptr_ptr, Nat.zero_add, Nat.add_zero, qPL0, qPL1, qPL2, qPL3, qPL4, qPL5, beq_self_eq_true, qED0, qED1, placeR]
          rw [drawR_ok]; case h => simp (config := { decide := true }) [calm, calmPair, calmTwo, List.range, List.range.loop, sameO_refl]
          simp only [M4, M4r2, M4b2, E4, ln, lm, d1, d2, hlo, hhi, a1, a2, a3, h41, fz, evC_loop, ev1_extV, qES0, qES1, qES2, env0, List.length_cons, List.length_nil, Nat.reduceAdd, Nat.reduceSub, List.replicate, List.cons_append, List.nil_append, opd, Env.put, Env.at, List.set_cons_zero, List.set_cons_succ, List.getD_cons_zero, List.getD_cons_succ, freezeL, resVs, oneOr, Option.map_some, Option.map_none, List.map_cons, List.map_nil, if_true, if_false, Bool.not_true, Bool.not_false, Bool.false_eq_true, reduceIte, decide_true, decide_false, Int.reduceLT, Int.reduceLE, Int.reduceGT, Int.reduceGE, Int.reduceEq, Int.reduceBEq, Int.reduceBNe, load_ptr, ldV_some, cellAt_cells, List.getElem?_cons_zero, List.getElem?_cons_succ, store_ptr, stO_some, setAt_0, setAt_1, setAt_2, setAt_3, setAt_4, setAt_5, setAt_6, setAt_7, setAt_8, setAt_9, setAt_10, setAt_11, setAt_12, cells_int, cells_bool, cells_str, cells_nils, cells_nilp, cells_ptr, cells_sl, cells_u8, cells_u16, cells_agg, get_upd_is, Option.isSome_some, upd_upd, ev1_nchkV, ev1_faV, nchkV_ptr, faV_ptr, ev1_extV, extV_tup, eqptr_nil, eqptr_ptr, Nat.zero_add, Nat.add_zero, qPL0, qPL1, qPL2, qPL3, qPL4, qPL5, beq_self_eq_true, qED0, qED1, placeR]
          exact key _ rfl
        · simp only [M4, M4r2, M4b2, E4, ln, lm, d1, hlo, hhi, a1, a2, a3, h41, fz, evC_loop, ev1_extV, qES0, qES1, qES2, env0, List.length_cons, List.length_nil, Nat.reduceAdd, Nat.reduceSub, List.replicate, List.cons_append, List.nil_append, opd, Env.put, Env.at, List.set_cons_zero, List.set_cons_succ, List.getD_cons_zero, List.getD_cons_succ, freezeL, resVs, oneOr, Option.map_some, Option.map_none, List.map_cons, List.map_nil, if_true, if_false, Bool.not_true, Bool.not_false, Bool.false_eq_true, reduceIte, decide_true, decide_false, Int.reduceLT, Int.reduceLE, Int.reduceGT, Int.reduceGE, Int.reduceEq, Int.reduceBEq, Int.reduceBNe, load_ptr, ldV_some, cellAt_cells, List.getElem?_cons_zero, List.getElem?_cons_succ, store_ptr, stO_some, setAt_0, setAt_1, setAt_2, setAt_3, setAt_4, setAt_5, setAt_6, setAt_7, setAt_8, setAt_9, setAt_10, setAt_11, setAt_12, cells_int, cells_bool, cells_str, cells_nils, cells_nilp, cells_ptr, cells_sl, cells_u8, cells_u16, cells_agg, get_upd_is, Option.isSome_some, upd_upd, ev1_nchkV, ev1_faV, nchkV_ptr, faV_ptr, ev1_extV, extV_tup, eqptr_nil, eqptr_ptr, Nat.zero_add, Nat.add_zero, qPL0, qPL1, qPL2, qPL3, qPL4, qPL5, beq_self_eq_true, qED0, qED1, placeR]
          rw [drawR_ok]; case h => simp (config := { decide := true }) [calm, calmPair, calmTwo, List.range, List.range.loop, sameO_refl]
          simp only [M4, M4r2, M4b2, E4, ln, lm, d1, hlo, hhi, a1, a2, a3, h41, fz, evC_loop, ev1_extV, qES0, qES1, qES2, env0, List.length_cons, List.length_nil, Nat.reduceAdd, Nat.reduceSub, List.replicate, List.cons_append, List.nil_append, opd, Env.put, Env.at, List.set_cons_zero, List.set_cons_succ, List.getD_cons_zero, List.getD_cons_succ, freezeL, resVs, oneOr, Option.map_some, Option.map_none, List.map_cons, List.map_nil, if_true, if_false, Bool.not_true, Bool.not_false, Bool.false_eq_true, reduceIte, decide_true, decide_false, Int.reduceLT, Int.reduceLE, Int.reduceGT, Int.reduceGE, Int.reduceEq, Int.reduceBEq, Int.reduceBNe, load_ptr, ldV_some, cellAt_cells, List.getElem?_cons_zero, List.getElem?_cons_succ, store_ptr, stO_some, setAt_0, setAt_1, setAt_2, setAt_3, setAt_4, setAt_5, setAt_6, setAt_7, setAt_8, setAt_9, setAt_10, setAt_11, setAt_12, cells_int, cells_bool, cells_str, cells_nils, cells_nilp, cells_ptr, cells_sl, cells_u8, cells_u16, cells_agg, get_upd_is, Option.isSome_some, upd_upd, ev1_nchkV, ev1_faV, nchkV_ptr, faV_ptr, ev1_extV, extV_tup, eqptr_nil, eqptr_ptr, Nat.zero_add, Nat.add_zero, qPL0, qPL1, qPL2, qPL3, qPL4, qPL5, beq_self_eq_true, qED0, qED1, placeR]
          exact key _ rfl
      · rw [if_neg hp, decide_eq_false hp] at h41
        generalize tpC (tupO o) = T at *
        generalize tpC ((tupO o).take k) = T1 at *
        generalize tpC ((tupO o).drop k) = T2 at *
        rcases dd with ⟨d1, d2⟩ | d1
        · simp only [M4, M4r2, M4b2, E4, ln, lm, d1, d2, hlo, hhi, a1, a2, a3, h41, fz, evC_loop, ev1_extV, qES0, qES1, qES2, env0, List.length_cons, List.length_nil, Nat.reduceAdd, Nat.reduceSub, List.replicate, List.cons_append, List.nil_append, opd, Env.put, Env.at, List.set_cons_zero, List.set_cons_succ, List.getD_cons_zero, List.getD_cons_succ, freezeL, resVs, oneOr, Option.map_some, Option.map_none, List.map_cons, List.map_nil, if_true, if_false, Bool.not_true, Bool.not_false, Bool.false_eq_true, reduceIte, decide_true, decide_false, Int.reduceLT, Int.reduceLE, Int.reduceGT, Int.reduceGE, Int.reduceEq, Int.reduceBEq, Int.reduceBNe, load_ptr, ldV_some, cellAt_cells, List.getElem?_cons_zero, List.getElem?_cons_succ, store_ptr, stO_some, setAt_0, setAt_1, setAt_2, setAt_3, setAt_4, setAt_5, setAt_6, setAt_7, setAt_8, setAt_9, setAt_10, setAt_11, setAt_12, cells_int, cells_bool, cells_str, cells_nils, cells_nilp, cells_ptr, cells_sl, cells_u8, cells_u16, cells_agg, get_upd_is, Option.isSome_some, upd_upd, ev1_nchkV, ev1_faV, nchkV_ptr, faV_ptr, ev1_extV, extV_tup, eqptr_nil, eqptr_ptr, Nat.zero_add, Nat.add_zero, qPL0, qPL1, qPL2, qPL3, qPL4, qPL5, beq_self_eq_true, qED0, qED1, placeR]
          rw [drawR_ok]; case h => simp (config := { decide := true }) [calm, calmPair, calmTwo, List.range, List.range.loop, sameO_refl]
          simp only [M4, M4r2, M4b2, E4, ln, lm, d1, d2, hlo, hhi, a1, a2, a3, h41, fz, evC_loop, ev1_extV, qES0, qES1, qES2, env0, List.length_cons, List.length_nil, Nat.reduceAdd, Nat.reduceSub, List.replicate, List.cons_append, List.nil_append, opd, Env.put, Env.at, List.set_cons_zero, List.set_cons_succ, List.getD_cons_zero, List.getD_cons_succ, freezeL, resVs, oneOr, Option.map_some, Option.map_none, List.map_cons, List.map_nil, if_true, if_false, Bool.not_true, Bool.not_false, Bool.false_eq_true, reduceIte, decide_true, decide_false, Int.reduceLT, Int.reduceLE, Int.reduceGT, Int.reduceGE, Int.reduceEq, Int.reduceBEq, Int.reduceBNe, load_ptr, ldV_some, cellAt_cells, List.getElem?_cons_zero, List.getElem?_cons_succ, store_ptr, stO_some, setAt_0, setAt_1, setAt_2, setAt_3, setAt_4, setAt_5, setAt_6, setAt_7, setAt_8, setAt_9, setAt_10, setAt_11, setAt_12, cells_int, cells_bool, cells_str, cells_nils, cells_nilp, cells_ptr, cells_sl, cells_u8, cells_u16, cells_agg, get_upd_is, Option.isSome_some, upd_upd, ev1_nchkV, ev1_faV, nchkV_ptr, faV_ptr, ev1_extV, extV_tup, eqptr_nil, eqptr_ptr, Nat.zero_add, Nat.add_zero, qPL0, qPL1, qPL2, qPL3, qPL4, qPL5, beq_self_eq_true, qED0, qED1, placeR]
        · simp only [M4, M4r2, M4b2, E4, ln, lm, d1, hlo, hhi, a1, a2, a3, h41, fz, evC_loop, ev1_extV, qES0, qES1, qES2, env0, List.length_cons, List.length_nil, Nat.reduceAdd, Nat.reduceSub, List.replicate, List.cons_append, List.nil_append, opd, Env.put, Env.at, List.set_cons_zero, List.set_cons_succ, List.getD_cons_zero, List.getD_cons_succ, freezeL, resVs, oneOr, Option.map_some, Option.map_none, List.map_cons, List.map_nil, if_true, if_false, Bool.not_true, Bool.not_false, Bool.false_eq_true, reduceIte, decide_true, decide_false, Int.reduceLT, Int.reduceLE, Int.reduceGT, Int.reduceGE, Int.reduceEq, Int.reduceBEq, Int.reduceBNe, load_ptr, ldV_some, cellAt_cells, List.getElem?_cons_zero, List.getElem?_cons_succ, store_ptr, stO_some, setAt_0, setAt_1, setAt_2, setAt_3, setAt_4, setAt_5, setAt_6, setAt_7, setAt_8, setAt_9, setAt_10, setAt_11, setAt_12, cells_int, cells_bool, cells_str, cells_nils, cells_nilp, cells_ptr, cells_sl, cells_u8, cells_u16, cells_agg, get_upd_is, Option.isSome_some, upd_upd, ev1_nchkV, ev1_faV, nchkV_ptr, faV_ptr, ev1_extV, extV_tup, eqptr_nil, eqptr_ptr, Nat.zero_add, Nat.add_zero, qPL0, qPL1, qPL2, qPL3, qPL4, qPL5, beq_self_eq_true, qED0, qED1, placeR]
          rw [drawR_ok]; case h => simp (config := { decide := true }) [calm, calmPair, calmTwo, List.range, List.range.loop, sameO_refl]
          simp only [M4, M4r2, M4b2, E4, ln, lm, d1, hlo, hhi, a1, a2, a3, h41, fz, evC_loop, ev1_extV, qES0, qES1, qES2, env0, List.length_cons, List.length_nil, Nat.reduceAdd, Nat.reduceSub, List.replicate, List.cons_append, List.nil_append, opd, Env.put, Env.at, List.set_cons_zero, List.set_cons_succ, List.getD_cons_zero, List.getD_cons_succ, freezeL, resVs, oneOr, Option.map_some, Option.map_none, List.map_cons, List.map_nil, if_true, if_false, Bool.not_true, Bool.not_false, Bool.false_eq_true, reduceIte, decide_true, decide_false, Int.reduceLT, Int.reduceLE, Int.reduceGT, Int.reduceGE, Int.reduceEq, Int.reduceBEq, Int.reduceBNe, load_ptr, ldV_some, cellAt_cells, List.getElem?_cons_zero, List.getElem?_cons_succ, store_ptr, stO_some, setAt_0, setAt_1, setAt_2, setAt_3, setAt_4, setAt_5, setAt_6, setAt_7, setAt_8, setAt_9, setAt_10, setAt_11, setAt_12, cells_int, cells_bool, cells_str, cells_nils, cells_nilp, cells_ptr, cells_sl, cells_u8, cells_u16, cells_agg, get_upd_is, Option.isSome_some, upd_upd, ev1_nchkV, ev1_faV, nchkV_ptr, faV_ptr, ev1_extV, extV_tup, eqptr_nil, eqptr_ptr, Nat.zero_add, Nat.add_zero, qPL0, qPL1, qPL2, qPL3, qPL4, qPL5, beq_self_eq_true, qED0, qED1, placeR]
    · rcases dd with ⟨d1, d2⟩ | d1
      · simp only [M4b2, E4, ln, d1, d2, qES0, qES1, qES2, env0, List.length_cons, List.length_nil, Nat.reduceAdd, Nat.reduceSub, List.replicate, List.cons_append, List.nil_append, opd, Env.put, Env.at, List.set_cons_zero, List.set_cons_succ, List.getD_cons_zero, List.getD_cons_succ, freezeL, resVs, oneOr, Option.map_some, Option.map_none, List.map_cons, List.map_nil, if_true, if_false, Bool.not_true, Bool.not_false, Bool.false_eq_true, reduceIte, decide_true, decide_false, Int.reduceLT, Int.reduceLE, Int.reduceGT, Int.reduceGE, Int.reduceEq, Int.reduceBEq, Int.reduceBNe, load_ptr, ldV_some, cellAt_cells, List.getElem?_cons_zero, List.getElem?_cons_succ, store_ptr, stO_some, setAt_0, setAt_1, setAt_2, setAt_3, setAt_4, setAt_5, setAt_6, setAt_7, setAt_8, setAt_9, setAt_10, setAt_11, setAt_12, cells_int, cells_bool, cells_str, cells_nils, cells_nilp, cells_ptr, cells_sl, cells_u8, cells_u16, cells_agg, get_upd_is, Option.isSome_some, upd_upd, ev1_nchkV, ev1_faV, nchkV_ptr, faV_ptr, ev1_extV, extV_tup, eqptr_nil, eqptr_ptr, Nat.zero_add, Nat.add_zero, qPL0, qPL1, qPL2, qPL3, qPL4, qPL5, beq_self_eq_true] at hh
        cases hh
      · simp only [M4b2, E4, ln, d1, qES0, qES1, qES2, env0, List.length_cons, List.length_nil, Nat.reduceAdd, Nat.reduceSub, List.replicate, List.cons_append, List.nil_append, opd, Env.put, Env.at, List.set_cons_zero, List.set_cons_succ, List.getD_cons_zero, List.getD_cons_succ, freezeL, resVs, oneOr, Option.map_some, Option.map_none, List.map_cons, List.map_nil, if_true, if_false, Bool.not_true, Bool.not_false, Bool.false_eq_true, reduceIte, decide_true, decide_false, Int.reduceLT, Int.reduceLE, Int.reduceGT, Int.reduceGE, Int.reduceEq, Int.reduceBEq, Int.reduceBNe, load_ptr, ldV_some, cellAt_cells, List.getElem?_cons_zero, List.getElem?_cons_succ, store_ptr, stO_some, setAt_0, setAt_1, setAt_2, setAt_3, setAt_4, setAt_5, setAt_6, setAt_7, setAt_8, setAt_9, setAt_10, setAt_11, setAt_12, cells_int, cells_bool, cells_str, cells_nils, cells_nilp, cells_ptr, cells_sl, cells_u8, cells_u16, cells_agg, get_upd_is, Option.isSome_some, upd_upd, ev1_nchkV, ev1_faV, nchkV_ptr, faV_ptr, ev1_extV, extV_tup, eqptr_nil, eqptr_ptr, Nat.zero_add, Nat.add_zero, qPL0, qPL1, qPL2, qPL3, qPL4, qPL5, beq_self_eq_true] at hh
        cases hh
end Go.Proofs.YtbeimfhodgmjhaaDoor
