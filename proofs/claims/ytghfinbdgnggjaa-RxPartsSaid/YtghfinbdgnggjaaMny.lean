/- RxMany: its loops. No conditions. -/
import Derived.Test.YtghfinbdgnggjaaBegun
import Derived.Test.YtghfinbdgnggjaaPRx
import Derived.Test.YtghfinbdgnggjaaWrap
import Derived.Test.YtghfinbdgnggjaaSet
import Derived.Test.YtghfinbdgnggjaaArgB
import Derived.Test.YtghfinbdgnggjaaMe
set_option linter.unusedSimpArgs false
set_option linter.unusedVariables false
set_option maxRecDepth 100000
set_option maxHeartbeats 4000000
namespace Go.Proofs.Ytghfinbdgnggjaa
open Go Go.Ab
/-! In plain Lean. -/
def gapF (g : List UInt8) : List UInt8 := (g.take 5).filter (· != 192)
def fr30 (bs : List (List UInt8)) (k : Nat) : List UInt8 := (bs.getD k []).take 30
def strm (g : List UInt8) (bs : List (List UInt8)) (i : Nat) : List UInt8 := (List.range i).flatMap fun k => if fr30 bs k = [] then [] else gapF g ++ wrapB (fr30 bs k) (k : Nat)
def want (bs : List (List UInt8)) (i : Nat) : List (List UInt8) := (List.range i).flatMap fun k => if fr30 bs k = [] then [] else [fr30 bs k]
theorem strm_succ (g : List UInt8) (bs : List (List UInt8)) (i : Nat) : strm g bs (i + 1) = strm g bs i ++ (if fr30 bs i = [] then [] else gapF g ++ wrapB (fr30 bs i) (i : Nat)) := by
  simp [strm, List.range_succ]
theorem want_succ (bs : List (List UInt8)) (i : Nat) : want bs (i + 1) = want bs i ++ (if fr30 bs i = [] then [] else [fr30 bs i]) := by
  simp [want, List.range_succ]
theorem gap_still (st : RxSt) (h : st.1.inn = false) : ∀ l : List UInt8, (∀ x ∈ l, x ≠ 192) → l.foldl rxStep st = st := by
  intro l
  induction l with
  | nil => intro _; rfl
  | cons x l ih =>
    intro hx
    have h1 : rxStep st x = st := by
      have hn : (x == 192) = false := beq_eq_false_iff_ne.2 (hx x (by simp))
      unfold rxStep rxPut
      simp [hn, h]
    rw [List.foldl_cons, h1]
    exact ih fun y hy => hx y (by simp [hy])
theorem gapF_no (g : List UInt8) : ∀ x ∈ gapF g, x ≠ 192 := by
  intro x hx
  have := (List.mem_filter.1 hx).2
  simpa using this
theorem rx_many (g : List UInt8) (bs : List (List UInt8)) : ∀ i, ∃ r, (strm g bs i).foldl rxStep (rxNew 30, []) = (r, want bs i) ∧ r.most = 30 ∧ r.inn = false := by
  intro i
  induction i with
  | zero => exact ⟨rxNew 30, rfl, rfl, rfl⟩
  | succ i ih =>
    obtain ⟨r, h1, h2, h3⟩ := ih
    rw [strm_succ, want_succ, List.foldl_append, h1]
    by_cases hf : fr30 bs i = []
    · rw [if_pos hf, if_pos hf]
      exact ⟨r, by simp, h2, h3⟩
    · rw [if_neg hf, if_neg hf, List.foldl_append, gap_still _ h3 _ (gapF_no g)]
      obtain ⟨r', q1, q2, q3⟩ := rx_wrapB (r, want bs i) (fr30 bs i) (i : Nat) (by rw [h2]; simp [fr30]; omega)
      rw [q1, if_neg hf]
      exact ⟨r', rfl, by rw [q2]; exact h2, q3⟩
theorem rxAll_many (g : List UInt8) (bs : List (List UInt8)) (i : Nat) : rxAll 30 (strm g bs i) = want bs i := by
  obtain ⟨r, h, _⟩ := rx_many g bs i
  unfold rxAll rxRun
  rw [h]
theorem wrapB_le (b : List UInt8) (h : b.length ≤ 30) (i : Nat) (hi : i < 8) : (wrapB b (i : Nat)).length ≤ 73 := by
  have e1 := esc_length (crcPut b)
  rw [crcPut_length] at e1
  have : ahead (i : Int) ≤ 7 := by unfold ahead; omega
  simp only [wrapB, List.length_append, List.length_replicate, List.length_cons, List.length_nil]
  omega
theorem strm_le (g : List UInt8) (bs : List (List UInt8)) : ∀ i, i ≤ 8 → (strm g bs i).length ≤ 78 * i := by
  intro i
  induction i with
  | zero => intro _; simp [strm]
  | succ i ih =>
    intro hi
    have := ih (by omega)
    have hg : (gapF g).length ≤ 5 := Nat.le_trans (List.length_filter_le _ _) (by simp; omega)
    rw [strm_succ, List.length_append]
    split
    · simp; omega
    · have := wrapB_le (fr30 bs i) (by simp [fr30]; omega) i (by omega)
      rw [List.length_append]
      omega
theorem want_le (bs : List (List UInt8)) : ∀ i, (want bs i).length ≤ i := by
  intro i
  induction i with
  | zero => simp [want]
  | succ i ih =>
    rw [want_succ, List.length_append]
    split <;> simp <;> omega
/-! Lists under way. -/
def GrowAt (S : St) (lv : AV) (xs : List AV) : Prop := (lv = .nils ∧ xs = []) ∨ ∃ t v, lv = .sl xs xs.length (some (t, v, 1)) ∧ S.get t = some (.tick 1 v) ∧ t < S.next
def tkOf (lv : AV) (j : Nat) : Prop := ∃ cs n v z, lv = .sl cs n (some (j, v, z))
theorem GrowAt.lt {S : St} {lv : AV} {xs : List AV} (h : GrowAt S lv xs) {j : Nat} (hj : tkOf lv j) : j < S.next := by
  obtain ⟨cs, n, v, z, rfl⟩ := hj
  rcases h with ⟨h, _⟩ | ⟨t, v', h, _, h2⟩
  · cases h
  · cases h; exact h2
theorem GrowAt.mono {S S' : St} {lv : AV} {xs : List AV} (h : GrowAt S lv xs) (hn : S.next ≤ S'.next) (hs : ∀ j, tkOf lv j → S'.get j = S.get j) : GrowAt S' lv xs := by
  rcases h with h | ⟨t, v', rfl, g, h2⟩
  · exact .inl h
  · exact .inr ⟨t, v', rfl, (hs t ⟨_, _, _, _, rfl⟩).trans g, by omega⟩
theorem GrowAt.ext {S S' : St} {lv : AV} {xs : List AV} (h : GrowAt S lv xs) (e : Ext S S') : GrowAt S' lv xs := h.mono e.le fun j hj => e.get j (h.lt hj)
theorem growN {by_ : Nat} (hby : by_ ≤ 100) {S : St} {lv y : AV} {xs news : List AV} (h : GrowAt S lv xs) (hn : newsOf 1 S y = some (news, news.length)) (hl : xs.length + news.length ≤ 100000) :
    ∃ lv' S', appV false 1 by_ S lv y = some (lv', S') ∧ GrowAt S' lv' (xs ++ news) ∧ S.next ≤ S'.next ∧ (∀ j, j < S.next → ¬ tkOf lv j → S'.get j = S.get j) ∧ (∀ j, tkOf lv' j → tkOf lv j ∨ j = S.next) := by
  have fit : ∀ n, n ≤ 100000 → fits n by_ = true := fun n hn => by
    have : n * by_ ≤ 100000 * 100 := Nat.mul_le_mul hn hby
    simp [fits]; omega
  rcases h with ⟨rfl, rfl⟩ | ⟨t, v, rfl, ht, h2⟩
  · by_cases h0 : news.length = 0
    · have hnil : news = [] := List.length_eq_zero_iff.1 h0
      subst hnil
      refine ⟨.nils, S, ?_, .inl ⟨rfl, rfl⟩, Nat.le_refl _, fun _ _ _ => rfl, fun j hj => .inl hj⟩
      simp only [appV, hn, Bool.false_and, Bool.false_eq_true, if_false, appS]
      rfl
    · refine ⟨.sl news news.length (some (S.next, 0, 1)), S.new (.tick 1 0), ?_, .inr ⟨S.next, 0, rfl, get_new_eq _ _, by simp [St.new]⟩, by simp [St.new], fun j hj _ => get_new_ne _ _ (by omega), ?_⟩
      · simp only [appV, hn, Bool.false_and, Bool.false_eq_true, if_false, appS]
        rw [if_neg h0, if_pos (fit _ (by omega))]
      · rintro j ⟨cs, n, v, z, e⟩
        cases e
        exact .inr rfl
  · refine ⟨.sl (xs ++ news) (xs.length + news.length) (some (t, v + 1, 1)), S.upd t (.tick 1 (v + 1)), ?_, .inr ⟨t, v + 1, by simp, get_upd_eq _ _ ht, h2⟩, Nat.le_refl _, fun j hj hn => get_upd_ne _ _ (fun e => by subst e; exact hn ⟨_, _, _, _, rfl⟩), ?_⟩
    · simp only [appV, hn, Bool.false_and, Bool.false_eq_true, if_false, appS, ht]
      rw [if_pos ⟨trivial, trivial, by simp, fit _ (by omega)⟩]
    · rintro j ⟨cs, n, v', z, e⟩
      cases e
      exact .inl ⟨_, _, _, _, rfl⟩
theorem GrowAt.isL {S : St} {lv : AV} {xs : List AV} (h : GrowAt S lv xs) : IsL lv xs := by
  rcases h with h | ⟨t, v, h, _⟩
  · exact .inl h
  · exact .inr ⟨_, h⟩
theorem GrowAt.bys {S : St} {lv : AV} {b : List UInt8} (h : GrowAt S lv (bytesAV b)) : Bys lv b := by
  rcases h with ⟨h, h'⟩ | ⟨t, v, h, _⟩
  · refine .inl ⟨h, ?_⟩
    cases b with
    | nil => rfl
    | cons a b => simp [bytesAV] at h'
  · exact .inr ⟨_, by rw [h, bytesAV_length]⟩
theorem bytesAV_app (a b : List UInt8) : bytesAV (a ++ b) = bytesAV a ++ bytesAV b := by simp [bytesAV]
/-- Both lists. -/
structure In9 (S : St) (bv wv : AV) (B : List UInt8) (Q : List (List UInt8)) : Prop where
  gb : GrowAt S bv (bytesAV B)
  gw : GrowAt S wv (Q.map AV.str)
  off : ∀ j, tkOf bv j → ¬ tkOf wv j
theorem In9.ext {S S' : St} {bv wv : AV} {B : List UInt8} {Q : List (List UInt8)} (h : In9 S bv wv B Q) (e : Ext S S') : In9 S' bv wv B Q := ⟨h.gb.ext e, h.gw.ext e, h.off⟩
theorem In9.addB {S : St} {bv wv y : AV} {B xs : List UInt8} {Q : List (List UInt8)} (h : In9 S bv wv B Q) (hn : newsOf 1 S y = some (bytesAV xs, (bytesAV xs).length)) (hl : B.length + xs.length ≤ 100000) : ∃ bv' S', appV false 1 1 S bv y = some (bv', S') ∧ In9 S' bv' wv (B ++ xs) Q := by
  obtain ⟨bv', S', a1, a2, a3, a4, a5⟩ := growN (by_ := 1) (by omega) h.gb hn (by rw [bytesAV_length, bytesAV_length]; exact hl)
  refine ⟨bv', S', a1, by rw [bytesAV_app]; exact a2, h.gw.mono a3 fun j hj => a4 j (h.gw.lt hj) (fun hk => h.off j hk hj), fun j hj hk => ?_⟩
  rcases a5 j hj with h1 | h1
  · exact h.off j h1 hk
  · have := h.gw.lt hk; omega
theorem In9.addW {S : St} {bv wv : AV} {B x : List UInt8} {Q : List (List UInt8)} (h : In9 S bv wv B Q) (tk : Option (Nat × Nat × Nat)) (hl : Q.length ≤ 1000) : ∃ wv' S', appV false 1 16 S wv (.sl [.str x] 1 tk) = some (wv', S') ∧ In9 S' bv wv' B (Q ++ [x]) := by
  obtain ⟨wv', S', a1, a2, a3, a4, a5⟩ := growN (by_ := 16) (by omega) h.gw (y := .sl [.str x] 1 tk) (news := [.str x]) rfl (by simp; omega)
  refine ⟨wv', S', a1, h.gb.mono a3 fun j hj => a4 j (h.gb.lt hj) (h.off j hj), by rw [List.map_append]; exact a2, fun j hj hk => ?_⟩
  rcases a5 j hk with h1 | h1
  · exact h.off j hj h1
  · have := h.gb.lt hj; omega
def E9o (x0 x1 bv wv : AV) (i : Int) : Env := [x0, x1, .undef, .undef, .undef, .undef, bv, wv, .int .i64 i, .undef, .undef, .undef, .undef, .undef, .undef, .undef, .undef, .undef, .undef, .undef, .undef, .undef, .undef, .undef, .undef, .undef, .undef, .undef, .undef, .undef, .undef, .undef, .undef, .undef, .undef, .undef, .undef, .undef, .undef, .undef, .undef, .undef, .undef, .undef, .undef, .undef, .undef, .undef, .undef, .undef, .undef, .undef, .undef, .undef, .undef, .undef, .undef, .undef, .undef, .undef, .undef, .undef, .undef, .undef, .undef, .undef, .undef, .undef, .undef, .undef, .undef, .undef, .undef, .undef, .undef, .undef, .undef, .undef, .undef, .undef, .undef, .undef, .undef, .undef, .undef, .undef, .undef, .undef, .undef]
def E9i (x0 x1 bv wv : AV) (i : Int) (f : AV) (k : Int) : Env := [x0, x1, .undef, .undef, .undef, .undef, bv, wv, .int .i64 i, f, .int .i64 k, .undef, .undef, .undef, .undef, .undef, .undef, .undef, .undef, .undef, .undef, .undef, .undef, .undef, .undef, .undef, .undef, .undef, .undef, .undef, .undef, .undef, .undef, .undef, .undef, .undef, .undef, .undef, .undef, .undef, .undef, .undef, .undef, .undef, .undef, .undef, .undef, .undef, .undef, .undef, .undef, .undef, .undef, .undef, .undef, .undef, .undef, .undef, .undef, .undef, .undef, .undef, .undef, .undef, .undef, .undef, .undef, .undef, .undef, .undef, .undef, .undef, .undef, .undef, .undef, .undef, .undef, .undef, .undef, .undef, .undef, .undef, .undef, .undef, .undef, .undef, .undef, .undef, .undef]
theorem gapF_succ (g : List UInt8) (k : Nat) (hk : k < g.length) : (g.take (k + 1)).filter (· != 192) = (g.take k).filter (· != 192) ++ (if g[k] != 192 then [g[k]] else []) := by
  rw [List.take_add_one, List.getElem?_eq_getElem hk, List.filter_append]
  congr 1
  simp only [Option.toList_some, List.filter_cons, List.filter_nil]
def X9a (x0 x1 bv wv : AV) (i : Int) (f : AV) (k len : Int) : Env := [x0, x1, .undef, .undef, .undef, .undef, bv, wv, .int .i64 i, f, .int .i64 k, .undef, .undef, .undef, .undef, .undef, .undef, .undef, .undef, .undef, .undef, .undef, .undef, .undef, .undef, .undef, .undef, .undef, .undef, .undef, .undef, .undef, .undef, .undef, .int .i64 k, x1, .int .i64 len, .bool true, .bool true, .int .i64 k, .bool false, .bool false, .undef, .undef, .undef, .undef, .undef, .undef, .undef, .undef, .undef, .undef, .undef, .undef, .undef, .undef, .undef, .undef, .undef, .undef, .undef, .undef, .undef, .undef, .undef, .undef, .undef, .undef, .undef, .undef, .undef, .undef, .undef, .undef, .undef, .undef, .undef, .undef, .undef, .undef, .undef, .undef, .undef, .undef, .undef, .undef, .undef, .undef, .undef]
def X9b (x0 x1 bv wv : AV) (i : Int) (f : AV) (k len : Int) : Env := [x0, x1, .undef, .undef, .undef, .undef, bv, wv, .int .i64 i, f, .int .i64 k, .undef, .undef, .undef, .undef, .undef, .undef, .undef, .undef, .undef, .undef, .undef, .undef, .undef, .undef, .undef, .undef, .undef, .undef, .undef, .undef, .undef, .undef, .undef, .int .i64 k, x1, .int .i64 len, .bool false, .bool false, .tup [], .tup [], .bool false, .undef, .undef, .undef, .undef, .undef, .undef, .undef, .undef, .undef, .undef, .undef, .undef, .undef, .undef, .undef, .undef, .undef, .undef, .undef, .undef, .undef, .undef, .undef, .undef, .undef, .undef, .undef, .undef, .undef, .undef, .undef, .undef, .undef, .undef, .undef, .undef, .undef, .undef, .undef, .undef, .undef, .undef, .undef, .undef, .undef, .undef, .undef]
/-- The gap, byte by byte. -/
theorem gapL (x0 x1 : AV) (g : List UInt8) (hx : Bys x1 g) (S : St) (bv wv : AV) (B : List UInt8) (Q : List (List UInt8)) (i : Int) (f : AV) (hB : B.length ≤ 1000) (h : In9 S bv wv B Q) (e : Env) (he : maskE M9b1l e = E9i x0 x1 bv wv i f 0) :
    ∃ S' bv' e', iter (evC noGl (ev 999) 999 M9b1) M9b1l 999 e S = some (.exit 2, e', S') ∧ In9 S' bv' wv (B ++ gapF g) Q ∧ (e' = X9a x0 x1 bv' wv i f 5 (g.length : Nat) ∨ e' = X9b x0 x1 bv' wv i f (g.length : Nat) (g.length : Nat)) := by
  have l1 := hx.len
  refine iter_leave (evC noGl (ev 999) 999 M9b1) M9b1l (fun k e S => ∃ bv', maskE M9b1l e = E9i x0 x1 bv' wv i f (k : Nat) ∧ In9 S bv' wv (B ++ (g.take k).filter (· != 192)) Q)
    (fun out => ∃ S' bv' e', out = some (.exit 2, e', S') ∧ In9 S' bv' wv (B ++ gapF g) Q ∧ (e' = X9a x0 x1 bv' wv i f 5 (g.length : Nat) ∨ e' = X9b x0 x1 bv' wv i f (g.length : Nat) (g.length : Nat))) (min g.length 5) ?_ ?_ (min g.length 5) 0 _ _ 999 (by omega) ⟨bv, he, by simpa using h⟩ (by omega)
  · rintro k e S hk ⟨bv', h1, h2⟩
    rw [h1]
    left
    have hkg : k < g.length := by omega
    have q1 : ((k : Int) < ((g.length : Nat) : Int)) = True := eq_true (by omega)
    have q2 : ((k : Int) < 5) = True := eq_true (by omega)
    have w1 : IntKind.i64.wrap ((k : Int) + 1) = ((k + 1 : Nat) : Int) := (wrapI _ (by omega) (by omega)).trans (by omega)
    have i1 := hx.ixa k hkg
    have i2 : Ab.cut (bytesAV (g.drop k)) 0 none = some (u8v g[k]) := cut_bytes g k hkg
    unfold u8v at i2
    by_cases hc : g[k] = 192
    · have nq : binV .neq (.int .u8 ((g[k].toNat : Nat) : Int)) (.int .u8 192) = some (.bool false) := by rw [hc]; rfl
      have e0 : (g.take (k + 1)).filter (· != 192) = (g.take k).filter (· != 192) := by rw [gapF_succ g k hkg, if_neg (by simp [hc]), List.append_nil]
      suffices hs : ∃ e', evC noGl (ev 999) 999 M9b1 (E9i x0 x1 bv' wv i f (k : Nat)) S = some (.nrm, e', S) ∧ maskE M9b1l e' = E9i x0 x1 bv' wv i f ((k + 1 : Nat) : Int) by
        obtain ⟨e', p1, p2⟩ := hs
        exact ⟨e', S, p1, bv', p2, by rw [e0]; exact h2⟩
      simp only [M9b1, E9i, l1, q1, q2, w1, i1, i2, nq, loadR_rp, qES0, qES1, qES2, env0, List.length_cons, List.length_nil, Nat.reduceAdd, Nat.reduceSub, List.replicate, List.cons_append, List.nil_append, opd, Env.put, Env.at, List.set_cons_zero, List.set_cons_succ, List.getD_cons_zero, List.getD_cons_succ, freezeL, resVs, oneOr, Option.map_some, Option.map_none, List.map_cons, List.map_nil, if_true, if_false, Bool.not_true, Bool.not_false, Bool.false_eq_true, reduceIte, decide_true, decide_false, Int.reduceLT, Int.reduceLE, Int.reduceGT, Int.reduceGE, Int.reduceEq, Int.reduceBEq, Int.reduceBNe, load_ptr, ldV_some, cellAt_cells, List.getElem?_cons_zero, List.getElem?_cons_succ, store_ptr, stO_some, setAt_0, setAt_1, setAt_2, setAt_3, setAt_4, setAt_5, setAt_6, setAt_7, setAt_8, setAt_9, setAt_10, setAt_11, setAt_12, cells_int, cells_bool, cells_str, cells_nils, cells_nilp, cells_ptr, cells_sl, cells_u8, cells_u16, cells_agg, get_upd_is, Option.isSome_some, upd_upd, ev1_nchkV, ev1_faV, nchkV_ptr, faV_ptr, ev1_extV, extV_tup, eqptr_nil, eqptr_ptr, Nat.zero_add, Nat.add_zero, qPL0, qPL1, qPL2, qPL3, qPL4, qPL5, beq_self_eq_true, qED0, qED1, placeR]
      exact ⟨_, rfl, rfl⟩
    · have nq : binV .neq (.int .u8 ((g[k].toNat : Nat) : Int)) (.int .u8 192) = some (.bool true) := by
        show some (AV.bool (((g[k].toNat : Nat) : Int) != 192)) = _
        simp only [Option.some.injEq, AV.bool.injEq, bne_iff_ne, ne_eq]
        intro hh
        apply hc
        have : g[k].toNat = 192 := by omega
        exact UInt8.toNat_inj.1 this
      have e0 : (g.take (k + 1)).filter (· != 192) = (g.take k).filter (· != 192) ++ [g[k]] := by rw [gapF_succ g k hkg, if_pos (by simp [hc])]
      have hfl : ((g.take k).filter (· != 192)).length ≤ 5 := Nat.le_trans (List.length_filter_le _ _) (by simp; omega)
      obtain ⟨bv2, S2, a1, a2⟩ := (h2.ext ((Ext.refl S).new (.tick 1 0))).addB (y := .sl [.int .u8 ((g[k].toNat : Nat) : Int)] 1 (some (S.next, 0, 1))) (xs := [g[k]]) rfl (by simp; omega)
      have f1 : ∀ z, fill1 [.int .u8 0] 0 1 (.int .u8 z) = some [.int .u8 z] := fun _ => rfl
      suffices hs : ∃ e', evC noGl (ev 999) 999 M9b1 (E9i x0 x1 bv' wv i f (k : Nat)) S = some (.nrm, e', S2) ∧ maskE M9b1l e' = E9i x0 x1 bv2 wv i f ((k + 1 : Nat) : Int) by
        obtain ⟨e', p1, p2⟩ := hs
        exact ⟨e', S2, p1, bv2, p2, by rw [e0, ← List.append_assoc]; exact a2⟩
      simp only [M9b1, E9i, l1, q1, q2, w1, i1, i2, nq, f1, a1, loadR_rp, qES0, qES1, qES2, env0, List.length_cons, List.length_nil, Nat.reduceAdd, Nat.reduceSub, List.replicate, List.cons_append, List.nil_append, opd, Env.put, Env.at, List.set_cons_zero, List.set_cons_succ, List.getD_cons_zero, List.getD_cons_succ, freezeL, resVs, oneOr, Option.map_some, Option.map_none, List.map_cons, List.map_nil, if_true, if_false, Bool.not_true, Bool.not_false, Bool.false_eq_true, reduceIte, decide_true, decide_false, Int.reduceLT, Int.reduceLE, Int.reduceGT, Int.reduceGE, Int.reduceEq, Int.reduceBEq, Int.reduceBNe, load_ptr, ldV_some, cellAt_cells, List.getElem?_cons_zero, List.getElem?_cons_succ, store_ptr, stO_some, setAt_0, setAt_1, setAt_2, setAt_3, setAt_4, setAt_5, setAt_6, setAt_7, setAt_8, setAt_9, setAt_10, setAt_11, setAt_12, cells_int, cells_bool, cells_str, cells_nils, cells_nilp, cells_ptr, cells_sl, cells_u8, cells_u16, cells_agg, get_upd_is, Option.isSome_some, upd_upd, ev1_nchkV, ev1_faV, nchkV_ptr, faV_ptr, ev1_extV, extV_tup, eqptr_nil, eqptr_ptr, Nat.zero_add, Nat.add_zero, qED0, qED1, placeR]
      exact ⟨_, rfl, rfl⟩
  · rintro e S ⟨bv', h1, h2⟩
    rw [h1]
    have hg : (g.take (min g.length 5)).filter (· != 192) = gapF g := by
      unfold gapF
      congr 1
      rw [List.take_eq_take_iff]; omega
    rw [hg] at h2
    by_cases hq : g.length ≤ 5
    · rw [Nat.min_eq_left hq]
      have q1 : (((g.length : Nat) : Int) < ((g.length : Nat) : Int)) = False := eq_false (by omega)
      have hx2 : evC noGl (ev 999) 999 M9b1 (E9i x0 x1 bv' wv i f (g.length : Nat)) S = some (.exit 2, X9b x0 x1 bv' wv i f (g.length : Nat) (g.length : Nat), S) := by
        simp only [M9b1, E9i, X9b, l1, q1, qES0, qES1, qES2, env0, List.length_cons, List.length_nil, Nat.reduceAdd, Nat.reduceSub, List.replicate, List.cons_append, List.nil_append, opd, Env.put, Env.at, List.set_cons_zero, List.set_cons_succ, List.getD_cons_zero, List.getD_cons_succ, freezeL, resVs, oneOr, Option.map_some, Option.map_none, List.map_cons, List.map_nil, if_true, if_false, Bool.not_true, Bool.not_false, Bool.false_eq_true, reduceIte, decide_true, decide_false, Int.reduceLT, Int.reduceLE, Int.reduceGT, Int.reduceGE, Int.reduceEq, Int.reduceBEq, Int.reduceBNe, load_ptr, ldV_some, cellAt_cells, List.getElem?_cons_zero, List.getElem?_cons_succ, store_ptr, stO_some, setAt_0, setAt_1, setAt_2, setAt_3, setAt_4, setAt_5, setAt_6, setAt_7, setAt_8, setAt_9, setAt_10, setAt_11, setAt_12, cells_int, cells_bool, cells_str, cells_nils, cells_nilp, cells_ptr, cells_sl, cells_u8, cells_u16, cells_agg, get_upd_is, Option.isSome_some, upd_upd, ev1_nchkV, ev1_faV, nchkV_ptr, faV_ptr, ev1_extV, extV_tup, eqptr_nil, eqptr_ptr, Nat.zero_add, Nat.add_zero, qPL0, qPL1, qPL2, qPL3, qPL4, qPL5, beq_self_eq_true, qED0, qED1, placeR]
      rw [hx2]
      exact ⟨⟨S, bv', _, rfl, h2, .inr rfl⟩, fun _ _ h => by cases h⟩
    · rw [Nat.min_eq_right (by omega)]
      have q1 : (((5 : Nat) : Int) < ((g.length : Nat) : Int)) = True := eq_true (by omega)
      have q2 : (((5 : Nat) : Int) < 5) = False := eq_false (by omega)
      have hx2 : evC noGl (ev 999) 999 M9b1 (E9i x0 x1 bv' wv i f (5 : Nat)) S = some (.exit 2, X9a x0 x1 bv' wv i f 5 (g.length : Nat), S) := by
        simp only [M9b1, E9i, X9a, l1, q1, q2, qES0, qES1, qES2, env0, List.length_cons, List.length_nil, Nat.reduceAdd, Nat.reduceSub, List.replicate, List.cons_append, List.nil_append, opd, Env.put, Env.at, List.set_cons_zero, List.set_cons_succ, List.getD_cons_zero, List.getD_cons_succ, freezeL, resVs, oneOr, Option.map_some, Option.map_none, List.map_cons, List.map_nil, if_true, if_false, Bool.not_true, Bool.not_false, Bool.false_eq_true, reduceIte, decide_true, decide_false, Int.reduceLT, Int.reduceLE, Int.reduceGT, Int.reduceGE, Int.reduceEq, Int.reduceBEq, Int.reduceBNe, load_ptr, ldV_some, cellAt_cells, List.getElem?_cons_zero, List.getElem?_cons_succ, store_ptr, stO_some, setAt_0, setAt_1, setAt_2, setAt_3, setAt_4, setAt_5, setAt_6, setAt_7, setAt_8, setAt_9, setAt_10, setAt_11, setAt_12, cells_int, cells_bool, cells_str, cells_nils, cells_nilp, cells_ptr, cells_sl, cells_u8, cells_u16, cells_agg, get_upd_is, Option.isSome_some, upd_upd, ev1_nchkV, ev1_faV, nchkV_ptr, faV_ptr, ev1_extV, extV_tup, eqptr_nil, eqptr_ptr, Nat.zero_add, Nat.add_zero, qPL0, qPL1, qPL2, qPL3, qPL4, qPL5, beq_self_eq_true, qED0, qED1, placeR]
        rfl
      rw [hx2]
      exact ⟨⟨S, bv', _, rfl, h2, .inl rfl⟩, fun _ _ h => by cases h⟩
theorem _root_.Go.Ab.IsBytess.ixa {x : AV} {bs : List (List UInt8)} (h : IsBytess x bs) (i : Nat) (hi : i < bs.length) : ∃ r y, ixaV 1 x (.int .i64 (i : Int)) = some (.rp r) ∧ Ab.cut r 0 none = some y ∧ Bys y bs[i] := by
  rcases h with ⟨rfl, rfl⟩ | ⟨ys, rfl, h1, h2⟩
  · simp at hi
  · obtain ⟨y, q1, q2⟩ := h2 i hi
    refine ⟨ys.drop i, y, ?_, ?_, ?_⟩
    · simp only [ixaV, idx]
      rw [if_pos ⟨by omega, by omega⟩]
      simp
    · rw [Ab.cut, List.getElem?_drop, Nat.add_zero]
      exact q1
    · rcases q2 with q2 | q2
      · exact .inl q2
      · exact .inr ⟨_, q2⟩
theorem _root_.Go.Ab.IsBytess.len {x : AV} {bs : List (List UInt8)} (h : IsBytess x bs) : lenV x = some (.int .i64 (bs.length : Nat)) := by
  rcases h with ⟨rfl, rfl⟩ | ⟨ys, rfl, h1, h2⟩ <;> rfl
/-- One slice. -/
theorem round9 (x0 x1 : AV) (bs : List (List UInt8)) (g : List UInt8) (hx0 : IsBytess x0 bs) (hx1 : Bys x1 g) (S : St) (bv wv : AV) (i : Nat) (hi : i < bs.length) (hi8 : i < 8) (h : In9 S bv wv (strm g bs i) (want bs i)) :
    ∃ e' S' bv' wv', evC noGl (ev 999) 999 M9b2 (E9o x0 x1 bv wv (i : Nat)) S = some (.nrm, e', S') ∧ maskE M9b2l e' = E9o x0 x1 bv' wv' ((i + 1 : Nat) : Int) ∧ In9 S' bv' wv' (strm g bs (i + 1)) (want bs (i + 1)) := by
  have l0 := hx0.len
  have q1 : ((i : Int) < ((bs.length : Nat) : Int)) = True := eq_true (by omega)
  have q2 : ((i : Int) < 8) = True := eq_true (by omega)
  have w1 : IntKind.i64.wrap ((i : Int) + 1) = ((i + 1 : Nat) : Int) := (wrapI _ (by omega) (by omega)).trans (by omega)
  obtain ⟨r, y, i1, i2, hy⟩ := hx0.ixa i hi
  obtain ⟨f, S1, p1, p2, p3⟩ : ∃ f s', ev 999 20 [y, .int .i64 30] S = some (f, s') ∧ Own S s' f (bs[i].take 30) ∧ Ext S s' := short_ev hy 998 30 (by omega) S
  have hfr : fr30 bs i = bs[i].take 30 := by unfold fr30; rw [List.getD_eq_getElem?_getD, List.getElem?_eq_getElem hi]; rfl
  rw [← hfr] at p2
  have hfl : (fr30 bs i).length ≤ 30 := by unfold fr30; simp; omega
  have hf := p2.bys
  have fz := hy.freeze
  have ff := hf.freeze
  have lf := hf.len
  have h1 := h.ext p3
  rw [strm_succ, want_succ]
  by_cases hn : fr30 bs i = []
  · have n0 : (((fr30 bs i).length : Int) == 0) = true := by rw [hn]; rfl
    rw [if_pos hn, if_pos hn, List.append_nil, List.append_nil]
    suffices hs : ∃ e', evC noGl (ev 999) 999 M9b2 (E9o x0 x1 bv wv (i : Nat)) S = some (.nrm, e', S1) ∧ maskE M9b2l e' = E9o x0 x1 bv wv ((i + 1 : Nat) : Int) by
      obtain ⟨e', a1, a2⟩ := hs
      exact ⟨e', S1, bv, wv, a1, a2, h1⟩
    simp only [M9b2, E9o, l0, q1, q2, w1, i1, i2, fz, p1, lf, n0, loadR_rp, qES0, qES1, qES2, env0, List.length_cons, List.length_nil, Nat.reduceAdd, Nat.reduceSub, List.replicate, List.cons_append, List.nil_append, opd, Env.put, Env.at, List.set_cons_zero, List.set_cons_succ, List.getD_cons_zero, List.getD_cons_succ, freezeL, resVs, oneOr, Option.map_some, Option.map_none, List.map_cons, List.map_nil, if_true, if_false, Bool.not_true, Bool.not_false, Bool.false_eq_true, reduceIte, decide_true, decide_false, Int.reduceLT, Int.reduceLE, Int.reduceGT, Int.reduceGE, Int.reduceEq, Int.reduceBEq, Int.reduceBNe, load_ptr, ldV_some, cellAt_cells, List.getElem?_cons_zero, List.getElem?_cons_succ, store_ptr, stO_some, setAt_0, setAt_1, setAt_2, setAt_3, setAt_4, setAt_5, setAt_6, setAt_7, setAt_8, setAt_9, setAt_10, setAt_11, setAt_12, cells_int, cells_bool, cells_str, cells_nils, cells_nilp, cells_ptr, cells_sl, cells_u8, cells_u16, cells_agg, get_upd_is, Option.isSome_some, upd_upd, ev1_nchkV, ev1_faV, nchkV_ptr, faV_ptr, ev1_extV, extV_tup, eqptr_nil, eqptr_ptr, Nat.zero_add, Nat.add_zero, qPL0, qPL1, qPL2, qPL3, qPL4, qPL5, beq_self_eq_true, qED0, qED1, placeR]
    exact ⟨_, rfl, rfl⟩
  · have n0 : (((fr30 bs i).length : Int) == 0) = false := beq_eq_false_iff_ne.2 (fun hh => hn (List.length_eq_zero_iff.1 (by omega)))
    rw [if_neg hn, if_neg hn]
    have hsl := strm_le g bs i (by omega)
    obtain ⟨S2, bv2, e2, a1, a2, a3⟩ := gapL x0 x1 g hx1 S1 bv wv (strm g bs i) (want bs i) (i : Nat) f (by omega) h1 (E9i x0 x1 bv wv (i : Nat) f 0) rfl
    have a1' : ∀ e, maskE M9b1l e = maskE M9b1l (E9i x0 x1 bv wv (i : Nat) f 0) → iter (evC noGl (ev 999) 999 M9b1) M9b1l 999 e S1 = some (.exit 2, e2, S2) := fun e he => by
      rw [iter_mask _ _ _ _ _ _ he]; exact a1
    obtain ⟨w, S3, b1, b2, b3⟩ : ∃ y' s', ev 999 29 [f, .int .i64 ((i : Nat) : Int)] S2 = some (y', s') ∧ Own S2 s' y' (wrapB (fr30 bs i) (i : Nat)) ∧ Ext S2 s' := wrap_ev hf (i : Nat) 968 (by omega) (by omega) S2
    have hg5 : (gapF g).length ≤ 5 := Nat.le_trans (List.length_filter_le _ _) (by simp; omega)
    have hwl := wrapB_le (fr30 bs i) hfl i hi8
    have hnw := b2.bys.news S3
    rw [← bytesAV_length] at hnw
    obtain ⟨bv3, S4, c1, c2⟩ := (a2.ext b3).addB hnw (by rw [List.length_append]; omega)
    obtain ⟨wv3, S5, d1, d2⟩ := (c2.ext ((Ext.refl S4).new (.tick 1 0))).addW (x := fr30 bs i) (some (S4.next, 0, 1)) (by have := want_le bs i; omega)
    rw [List.append_assoc] at d2
    have f1 : ∀ x, fill1 [.str []] 0 1 (.str x) = some [.str x] := fun _ => rfl
    have sf := hf.str
    suffices hs : ∃ e', evC noGl (ev 999) 999 M9b2 (E9o x0 x1 bv wv (i : Nat)) S = some (.nrm, e', S5) ∧ maskE M9b2l e' = E9o x0 x1 bv3 wv3 ((i + 1 : Nat) : Int) by
      obtain ⟨e', g1, g2⟩ := hs
      exact ⟨e', S5, bv3, wv3, g1, g2, d2⟩
    simp only [M9b2, E9o, l0, q1, q2, w1, i1, i2, fz, p1, lf, n0, loadR_rp, evC_loop, qES0, qES1, qES2, env0, List.length_cons, List.length_nil, Nat.reduceAdd, Nat.reduceSub, List.replicate, List.cons_append, List.nil_append, opd, Env.put, Env.at, List.set_cons_zero, List.set_cons_succ, List.getD_cons_zero, List.getD_cons_succ, freezeL, resVs, oneOr, Option.map_some, Option.map_none, List.map_cons, List.map_nil, if_true, if_false, Bool.not_true, Bool.not_false, Bool.false_eq_true, reduceIte, decide_true, decide_false, Int.reduceLT, Int.reduceLE, Int.reduceGT, Int.reduceGE, Int.reduceEq, Int.reduceBEq, Int.reduceBNe, load_ptr, ldV_some, cellAt_cells, List.getElem?_cons_zero, List.getElem?_cons_succ, store_ptr, stO_some, setAt_0, setAt_1, setAt_2, setAt_3, setAt_4, setAt_5, setAt_6, setAt_7, setAt_8, setAt_9, setAt_10, setAt_11, setAt_12, cells_int, cells_bool, cells_str, cells_nils, cells_nilp, cells_ptr, cells_sl, cells_u8, cells_u16, cells_agg, get_upd_is, Option.isSome_some, upd_upd, ev1_nchkV, ev1_faV, nchkV_ptr, faV_ptr, ev1_extV, extV_tup, eqptr_nil, eqptr_ptr, Nat.zero_add, Nat.add_zero, qED0, qED1, placeR]
    rw [a1']
    rotate_left
    · rfl
    rcases a3 with rfl | rfl
    · dsimp only [X9a]
      simp only [M9r1, w1, ff, b1, c1, sf, f1, d1, qES0, qES1, qES2, env0, List.length_cons, List.length_nil, Nat.reduceAdd, Nat.reduceSub, List.replicate, List.cons_append, List.nil_append, opd, Env.put, Env.at, List.set_cons_zero, List.set_cons_succ, List.getD_cons_zero, List.getD_cons_succ, freezeL, resVs, oneOr, Option.map_some, Option.map_none, List.map_cons, List.map_nil, if_true, if_false, Bool.not_true, Bool.not_false, Bool.false_eq_true, reduceIte, decide_true, decide_false, Int.reduceLT, Int.reduceLE, Int.reduceGT, Int.reduceGE, Int.reduceEq, Int.reduceBEq, Int.reduceBNe, load_ptr, ldV_some, cellAt_cells, List.getElem?_cons_zero, List.getElem?_cons_succ, store_ptr, stO_some, setAt_0, setAt_1, setAt_2, setAt_3, setAt_4, setAt_5, setAt_6, setAt_7, setAt_8, setAt_9, setAt_10, setAt_11, setAt_12, cells_int, cells_bool, cells_str, cells_nils, cells_nilp, cells_ptr, cells_sl, cells_u8, cells_u16, cells_agg, get_upd_is, Option.isSome_some, upd_upd, ev1_nchkV, ev1_faV, nchkV_ptr, faV_ptr, ev1_extV, extV_tup, eqptr_nil, eqptr_ptr, Nat.zero_add, Nat.add_zero, qED0, qED1, placeR]
      exact ⟨_, rfl, rfl⟩
    · dsimp only [X9b]
      simp only [M9r1, w1, ff, b1, c1, sf, f1, d1, qES0, qES1, qES2, env0, List.length_cons, List.length_nil, Nat.reduceAdd, Nat.reduceSub, List.replicate, List.cons_append, List.nil_append, opd, Env.put, Env.at, List.set_cons_zero, List.set_cons_succ, List.getD_cons_zero, List.getD_cons_succ, freezeL, resVs, oneOr, Option.map_some, Option.map_none, List.map_cons, List.map_nil, if_true, if_false, Bool.not_true, Bool.not_false, Bool.false_eq_true, reduceIte, decide_true, decide_false, Int.reduceLT, Int.reduceLE, Int.reduceGT, Int.reduceGE, Int.reduceEq, Int.reduceBEq, Int.reduceBNe, load_ptr, ldV_some, cellAt_cells, List.getElem?_cons_zero, List.getElem?_cons_succ, store_ptr, stO_some, setAt_0, setAt_1, setAt_2, setAt_3, setAt_4, setAt_5, setAt_6, setAt_7, setAt_8, setAt_9, setAt_10, setAt_11, setAt_12, cells_int, cells_bool, cells_str, cells_nils, cells_nilp, cells_ptr, cells_sl, cells_u8, cells_u16, cells_agg, get_upd_is, Option.isSome_some, upd_upd, ev1_nchkV, ev1_faV, nchkV_ptr, faV_ptr, ev1_extV, extV_tup, eqptr_nil, eqptr_ptr, Nat.zero_add, Nat.add_zero, qED0, qED1, placeR]
      exact ⟨_, rfl, rfl⟩
def E9c (wv o : AV) (len j : Int) : Env := [.undef, .undef, .undef, .undef, .undef, .undef, .undef, wv, .undef, .undef, .undef, o, .undef, .undef, .undef, .undef, .undef, .undef, .undef, .undef, .undef, .undef, .undef, .undef, .undef, .undef, .undef, .undef, .undef, .undef, .undef, .undef, .undef, .undef, .undef, .undef, .undef, .undef, .undef, .undef, .undef, .undef, .undef, .undef, .undef, .undef, .undef, .undef, .undef, .undef, .undef, .undef, .undef, .undef, .undef, .undef, .undef, .undef, .undef, .undef, .undef, .undef, .undef, .undef, .undef, .undef, .undef, .undef, .undef, .undef, .undef, .undef, .undef, .undef, .int .i64 len, .int .i64 j, .undef, .undef, .undef, .undef, .undef, .undef, .undef, .undef, .undef, .undef, .undef, .undef, .undef]
theorem _root_.Go.Ab.AllBys.at_ {ls : List AV} {bs : List (List UInt8)} (h : AllBys ls bs) (i : Nat) (hi : i < bs.length) : ∃ y, ls[i]? = some y ∧ Bys y bs[i] := by
  induction ls generalizing bs i with
  | nil => cases bs with
    | nil => simp at hi
    | cons b bs => exact absurd h id
  | cons x ls ih => cases bs with
    | nil => exact absurd h id
    | cons b bs => cases i with
      | zero => exact ⟨x, rfl, h.1⟩
      | succ i => simpa using ih h.2 i (by simpa using hi)
/-- What was found is what was wanted. -/
theorem sameL9 (wv o : AV) (ys : List AV) (Q : List (List UInt8)) (hw : IsL wv (Q.map AV.str)) (ho : IsL o ys) (hy : AllBys ys Q) (hQ : Q.length ≤ 100) (S : St) (e : Env) (he : maskE M9b0l e = E9c wv o (Q.length : Nat) 0) :
    outR [MRes.tmp 0 4] (seqR (blockR 4 (iter (evC noGl (ev 999) 999 M9b0) M9b0l 999 e S)) (evC noGl (ev 999) 999 M9r0)) = some (.bool true, S) := by
  have hyl := hy.length
  refine iter_leave (evC noGl (ev 999) 999 M9b0) M9b0l (fun j e S' => maskE M9b0l e = E9c wv o (Q.length : Nat) (j : Nat) ∧ S' = S)
    (fun out => outR [MRes.tmp 0 4] (seqR (blockR 4 out) (evC noGl (ev 999) 999 M9r0)) = some (.bool true, S)) Q.length ?_ ?_ Q.length 0 _ _ 999 (by omega) ⟨he, rfl⟩ (by omega)
  · rintro j e S' hj ⟨h1, rfl⟩
    rw [h1]
    left
    obtain ⟨y, y1, y2⟩ := hy.at_ j hj
    have q1 : ((j : Int) < ((Q.length : Nat) : Int)) = True := eq_true (by omega)
    have w1 : IntKind.i64.wrap ((j : Int) + 1) = ((j + 1 : Nat) : Int) := (wrapI _ (by omega) (by omega)).trans (by omega)
    have i1 := ho.ixa j (by omega)
    have i2 : Ab.cut (ys.drop j) 0 none = some y := by rw [Ab.cut, List.getElem?_drop, Nat.add_zero]; exact y1
    have i3 := hw.ixa j (by simpa using hj)
    have i4 : Ab.cut ((Q.map AV.str).drop j) 0 none = some (.str Q[j]) := by rw [Ab.cut, List.getElem?_drop, Nat.add_zero, List.getElem?_map, List.getElem?_eq_getElem hj]; rfl
    have sy := y2.str
    have ns : ∀ b : List UInt8, binV .neq (.str b) (.str b) = some (.bool false) := fun b => by
      show some (AV.bool (!(b == b))) = _
      simp
    suffices hs : ∃ e', evC noGl (ev 999) 999 M9b0 (E9c wv o (Q.length : Nat) (j : Nat)) S' = some (.nrm, e', S') ∧ maskE M9b0l e' = E9c wv o (Q.length : Nat) ((j + 1 : Nat) : Int) by
      obtain ⟨e', p1, p2⟩ := hs
      exact ⟨e', S', p1, p2, rfl⟩
    simp only [M9b0, E9c, q1, i1, i2, i3, i4, sy, ns, loadR_rp, qES0, qES1, qES2, env0, List.length_cons, List.length_nil, Nat.reduceAdd, Nat.reduceSub, List.replicate, List.cons_append, List.nil_append, opd, Env.put, Env.at, List.set_cons_zero, List.set_cons_succ, List.getD_cons_zero, List.getD_cons_succ, freezeL, resVs, oneOr, Option.map_some, Option.map_none, List.map_cons, List.map_nil, if_true, if_false, Bool.not_true, Bool.not_false, Bool.false_eq_true, reduceIte, decide_true, decide_false, Int.reduceLT, Int.reduceLE, Int.reduceGT, Int.reduceGE, Int.reduceEq, Int.reduceBEq, Int.reduceBNe, load_ptr, ldV_some, cellAt_cells, List.getElem?_cons_zero, List.getElem?_cons_succ, store_ptr, stO_some, setAt_0, setAt_1, setAt_2, setAt_3, setAt_4, setAt_5, setAt_6, setAt_7, setAt_8, setAt_9, setAt_10, setAt_11, setAt_12, cells_int, cells_bool, cells_str, cells_nils, cells_nilp, cells_ptr, cells_sl, cells_u8, cells_u16, cells_agg, get_upd_is, Option.isSome_some, upd_upd, ev1_nchkV, ev1_faV, nchkV_ptr, faV_ptr, ev1_extV, extV_tup, eqptr_nil, eqptr_ptr, Nat.zero_add, Nat.add_zero, qED0, qED1, placeR]
    rw [drawR_ok]; case h => simp (config := {decide := true}) [calm, calmPair, calmTwo, List.range, List.range.loop, sameO_refl]
    simp only [w1, qES0, qES1, qES2, env0, List.length_cons, List.length_nil, Nat.reduceAdd, Nat.reduceSub, List.replicate, List.cons_append, List.nil_append, opd, Env.put, Env.at, List.set_cons_zero, List.set_cons_succ, List.getD_cons_zero, List.getD_cons_succ, freezeL, resVs, oneOr, Option.map_some, Option.map_none, List.map_cons, List.map_nil, if_true, if_false, Bool.not_true, Bool.not_false, Bool.false_eq_true, reduceIte, decide_true, decide_false, Int.reduceLT, Int.reduceLE, Int.reduceGT, Int.reduceGE, Int.reduceEq, Int.reduceBEq, Int.reduceBNe, load_ptr, ldV_some, cellAt_cells, List.getElem?_cons_zero, List.getElem?_cons_succ, store_ptr, stO_some, setAt_0, setAt_1, setAt_2, setAt_3, setAt_4, setAt_5, setAt_6, setAt_7, setAt_8, setAt_9, setAt_10, setAt_11, setAt_12, cells_int, cells_bool, cells_str, cells_nils, cells_nilp, cells_ptr, cells_sl, cells_u8, cells_u16, cells_agg, get_upd_is, Option.isSome_some, upd_upd, ev1_nchkV, ev1_faV, nchkV_ptr, faV_ptr, ev1_extV, extV_tup, eqptr_nil, eqptr_ptr, Nat.zero_add, Nat.add_zero, qED0, qED1, placeR]
    exact ⟨_, rfl, rfl⟩
  · rintro e S' ⟨h1, rfl⟩
    rw [h1]
    have q1 : (((Q.length : Nat) : Int) < ((Q.length : Nat) : Int)) = False := eq_false (by omega)
    refine ⟨?_, fun _ _ h => ?_⟩
    · simp only [M9b0, E9c, M9r0, q1, qES0, qES1, qES2, env0, List.length_cons, List.length_nil, Nat.reduceAdd, Nat.reduceSub, List.replicate, List.cons_append, List.nil_append, opd, Env.put, Env.at, List.set_cons_zero, List.set_cons_succ, List.getD_cons_zero, List.getD_cons_succ, freezeL, resVs, oneOr, Option.map_some, Option.map_none, List.map_cons, List.map_nil, if_true, if_false, Bool.not_true, Bool.not_false, Bool.false_eq_true, reduceIte, decide_true, decide_false, Int.reduceLT, Int.reduceLE, Int.reduceGT, Int.reduceGE, Int.reduceEq, Int.reduceBEq, Int.reduceBNe, load_ptr, ldV_some, cellAt_cells, List.getElem?_cons_zero, List.getElem?_cons_succ, store_ptr, stO_some, setAt_0, setAt_1, setAt_2, setAt_3, setAt_4, setAt_5, setAt_6, setAt_7, setAt_8, setAt_9, setAt_10, setAt_11, setAt_12, cells_int, cells_bool, cells_str, cells_nils, cells_nilp, cells_ptr, cells_sl, cells_u8, cells_u16, cells_agg, get_upd_is, Option.isSome_some, upd_upd, ev1_nchkV, ev1_faV, nchkV_ptr, faV_ptr, ev1_extV, extV_tup, eqptr_nil, eqptr_ptr, Nat.zero_add, Nat.add_zero, qED0, qED1, placeR]
    · simp only [M9b0, E9c, q1, qES0, qES1, qES2, env0, List.length_cons, List.length_nil, Nat.reduceAdd, Nat.reduceSub, List.replicate, List.cons_append, List.nil_append, opd, Env.put, Env.at, List.set_cons_zero, List.set_cons_succ, List.getD_cons_zero, List.getD_cons_succ, freezeL, resVs, oneOr, Option.map_some, Option.map_none, List.map_cons, List.map_nil, if_true, if_false, Bool.not_true, Bool.not_false, Bool.false_eq_true, reduceIte, decide_true, decide_false, Int.reduceLT, Int.reduceLE, Int.reduceGT, Int.reduceGE, Int.reduceEq, Int.reduceBEq, Int.reduceBNe, load_ptr, ldV_some, cellAt_cells, List.getElem?_cons_zero, List.getElem?_cons_succ, store_ptr, stO_some, setAt_0, setAt_1, setAt_2, setAt_3, setAt_4, setAt_5, setAt_6, setAt_7, setAt_8, setAt_9, setAt_10, setAt_11, setAt_12, cells_int, cells_bool, cells_str, cells_nils, cells_nilp, cells_ptr, cells_sl, cells_u8, cells_u16, cells_agg, get_upd_is, Option.isSome_some, upd_upd, ev1_nchkV, ev1_faV, nchkV_ptr, faV_ptr, ev1_extV, extV_tup, eqptr_nil, eqptr_ptr, Nat.zero_add, Nat.add_zero, qED0, qED1, placeR] at h
      cases h
end Go.Proofs.Ytghfinbdgnggjaa
