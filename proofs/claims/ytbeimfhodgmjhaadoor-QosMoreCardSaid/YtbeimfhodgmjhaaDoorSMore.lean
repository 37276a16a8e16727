/- Parameters behind a beginning; the loop of the law SetupMore. No conditions. -/
import Derived.Test.YtbeimfhodgmjhaaDoorS5
import Derived.Test.YtbeimfhodgmjhaaDoorArgR
import Derived.Test.YtbeimfhodgmjhaaDoorM8_17
set_option linter.unusedSimpArgs false
set_option linter.unusedVariables false
set_option maxRecDepth 100000
set_option maxHeartbeats 4000000
namespace Go.Proofs.YtbeimfhodgmjhaaDoor
open Go Go.Ab
theorem encT_read (t : Tp) (h : okT t) (n : Nat) (r : List UInt8) : getT (n + 1) (encT t ++ r) = (getT n r).map (t :: ·) := by
  obtain ⟨id, val⟩ := t
  obtain ⟨h1, h2, h3⟩ := h
  simp only at h1 h2 h3
  have e2 : (UInt8.ofNat val.length).toNat = val.length := by simp; omega
  have e1 : ((UInt8.ofNat id.toNat).toNat : Int) = id := by simp; omega
  show (if (UInt8.ofNat val.length).toNat > 40 ∨ (val ++ r).length < (UInt8.ofNat val.length).toNat then none else (getT n ((val ++ r).drop (UInt8.ofNat val.length).toNat)).map ((((UInt8.ofNat id.toNat).toNat : Int), (val ++ r).take (UInt8.ofNat val.length).toNat) :: ·)) = _
  rw [e2, e1, if_neg (by simp; omega), List.drop_left, List.take_left]
theorem getT_encL : ∀ (l : List Tp) (n : Nat), (∀ t ∈ l, okT t) → l.length < n → getT n (encL l) = some l := by
  intro l
  induction l with
  | nil =>
    intro n _ hn
    obtain ⟨m, rfl⟩ : ∃ m, n = m + 1 := ⟨n - 1, by simp at hn; omega⟩
    rfl
  | cons t l ih =>
    intro n h hn
    obtain ⟨m, rfl⟩ : ∃ m, n = m + 1 := ⟨n - 1, by simp at hn; omega⟩
    have e : encL (t :: l) = encT t ++ encL l := rfl
    rw [e, encT_read t (h t (by simp)), ih m (fun t ht => h t (by simp [ht])) (by simp at hn; omega)]
    rfl
theorem getL_encL (l : List Tp) (h : putOk l) (hn : l.length < 65) : getL (encL l) = some l := by
  unfold getL
  rw [if_neg (by have := h.2; omega), getT_encL l 65 h.1 hn]
theorem encL_app (l m : List Tp) : encL (l ++ m) = encL l ++ encL m := by simp [encL]
theorem getO_more (o : Of5) (h : o.may) (m : List Tp) (hm : putOk m) (hl : (encL m).length ≤ 40) (hn : m.length ≤ 20) : getO (offB o ++ encL m) = some o := by
  have e : offB o ++ encL m = encL (tupO o ++ m) := by rw [encL_app, encL_tupO]
  have hp : putOk (tupO o ++ m) := by
    refine ⟨fun t ht => ?_, by rw [encL_app, encL_tupO, List.length_append]; simp [offB]; omega⟩
    rcases List.mem_append.1 ht with ht | ht
    · exact (putOk_tupO o).1 t ht
    · exact hm.1 t ht
  have hg := getL_encL _ hp (by simp [tupO]; omega)
  unfold getO
  rw [e, hg]
  have ho : ofL (tupO o ++ m) = o := ofL_tupO o h
  simp only [ho]
  rw [if_pos h]
theorem getS_drop (x : Su) (j : Nat) (hj : j < 5) : getS ((setB x).take (10 + j * 3) ++ (setB x).drop (10 + j * 3 + 3)) = none := by
  obtain ⟨f, g, a, c, o⟩ := x
  match j, hj with
  | 0, _ =>
    show getS (UInt8.ofNat f.toNat :: UInt8.ofNat (f / 256).toNat :: UInt8.ofNat (f / 65536).toNat :: UInt8.ofNat (f / 16777216).toNat :: UInt8.ofNat g.toNat :: UInt8.ofNat (g / 256).toNat :: UInt8.ofNat (g / 65536).toNat :: UInt8.ofNat (g / 16777216).toNat :: u8n a :: u8n c :: [2, 1, u8n o.s, 3, 1, u8n o.w, 4, 1, u8n o.z, 5, 1, u8n o.t]) = none
    rw [getS_cons, getO_few (l := (tupO o).drop 1) rfl 0 (by omega) rfl]
  | 1, _ =>
    show getS (UInt8.ofNat f.toNat :: UInt8.ofNat (f / 256).toNat :: UInt8.ofNat (f / 65536).toNat :: UInt8.ofNat (f / 16777216).toNat :: UInt8.ofNat g.toNat :: UInt8.ofNat (g / 256).toNat :: UInt8.ofNat (g / 65536).toNat :: UInt8.ofNat (g / 16777216).toNat :: u8n a :: u8n c :: [1, 1, u8n o.b, 3, 1, u8n o.w, 4, 1, u8n o.z, 5, 1, u8n o.t]) = none
    rw [getS_cons, getO_few (l := (1, [u8n o.b]) :: (tupO o).drop 2) rfl 1 (by omega) rfl]
  | 2, _ =>
    show getS (UInt8.ofNat f.toNat :: UInt8.ofNat (f / 256).toNat :: UInt8.ofNat (f / 65536).toNat :: UInt8.ofNat (f / 16777216).toNat :: UInt8.ofNat g.toNat :: UInt8.ofNat (g / 256).toNat :: UInt8.ofNat (g / 65536).toNat :: UInt8.ofNat (g / 16777216).toNat :: u8n a :: u8n c :: [1, 1, u8n o.b, 2, 1, u8n o.s, 4, 1, u8n o.z, 5, 1, u8n o.t]) = none
    rw [getS_cons, getO_few (l := (1, [u8n o.b]) :: (2, [u8n o.s]) :: (tupO o).drop 3) rfl 2 (by omega) rfl]
  | 3, _ =>
    show getS (UInt8.ofNat f.toNat :: UInt8.ofNat (f / 256).toNat :: UInt8.ofNat (f / 65536).toNat :: UInt8.ofNat (f / 16777216).toNat :: UInt8.ofNat g.toNat :: UInt8.ofNat (g / 256).toNat :: UInt8.ofNat (g / 65536).toNat :: UInt8.ofNat (g / 16777216).toNat :: u8n a :: u8n c :: [1, 1, u8n o.b, 2, 1, u8n o.s, 3, 1, u8n o.w, 5, 1, u8n o.t]) = none
    rw [getS_cons, getO_few (l := (1, [u8n o.b]) :: (2, [u8n o.s]) :: (3, [u8n o.w]) :: (tupO o).drop 4) rfl 3 (by omega) rfl]
  | 4, _ =>
    show getS (UInt8.ofNat f.toNat :: UInt8.ofNat (f / 256).toNat :: UInt8.ofNat (f / 65536).toNat :: UInt8.ofNat (f / 16777216).toNat :: UInt8.ofNat g.toNat :: UInt8.ofNat (g / 256).toNat :: UInt8.ofNat (g / 65536).toNat :: UInt8.ofNat (g / 16777216).toNat :: u8n a :: u8n c :: [1, 1, u8n o.b, 2, 1, u8n o.s, 3, 1, u8n o.w, 4, 1, u8n o.z]) = none
    rw [getS_cons, getO_few (l := (1, [u8n o.b]) :: (2, [u8n o.s]) :: (3, [u8n o.w]) :: (4, [u8n o.z]) :: []) rfl 4 (by omega) rfl]
/-- Parameters, their texts cut. -/
def cutT (n : Nat) (l : List Tp) : List Tp := l.map fun t => (t.1, t.2.take n)
theorem cutT_succ (n : Nat) (l : List Tp) (i : Nat) (h : i < l.length) : cutT n (l.take (i + 1)) = cutT n (l.take i) ++ [(l[i].1, l[i].2.take n)] := by
  rw [List.take_succ_eq_append_getElem h]; simp only [cutT, List.map_append, List.map_cons, List.map_nil]
theorem cutT_len (n : Nat) (l : List Tp) : (cutT n l).length = l.length := by simp [cutT]
theorem isTp_of {x : AV} {l : List Tp} (h : IsTups x l) : IsTp x l := by
  rcases h with h | h
  · exact .inl h
  · exact .inr ⟨none, h⟩
/-! The law's loop. -/
theorem eq9 (f t : Int) (a c b s w z ti : Int) : eqAV (.flat (.many [SK.i, SK.i, SK.i, SK.i, SK.i, SK.i, SK.i, SK.i, SK.i])) (.agg [.int .u32 f, .int .u32 t, .int .i64 a, .int .i64 c, .int .i64 b, .int .i64 s, .int .i64 w, .int .i64 z, .int .i64 ti]) (.agg [.int .u32 f, .int .u32 t, .int .i64 a, .int .i64 c, .int .i64 b, .int .i64 s, .int .i64 w, .int .i64 z, .int .i64 ti]) = some true := by
  simp [eqAV, eqFl, eqScL, eqSc]
theorem setB_len (x : Su) : (setB x).length = 25 := rfl
def E17 (x1 : AV) (dr : Int) (p : List UInt8) (acc : AV) (i : Int) : Env := [.undef, x1, .int .i64 dr, .ptr St.nil.next 0, .undef, .undef, .undef, .undef, .str p, .undef, acc, .int .i64 i, .undef, .undef, .undef, .undef, .undef, .undef, .undef, .undef, .undef, .undef, .undef, .undef, .undef, .undef, .undef, .undef, .undef, .undef, .undef, .undef, .undef, .undef, .undef, .undef, .undef, .undef, .undef, .undef, .undef, .undef, .undef, .undef, .undef, .undef, .undef, .undef, .undef, .undef, .undef, .undef, .undef, .undef, .undef, .undef, .undef, .undef, .undef, .undef, .undef, .undef, .undef, .undef, .undef, .undef, .undef, .undef, .undef, .undef, .undef, .undef, .undef, .undef, .undef, .undef, .undef, .undef, .undef, .undef, .undef, .undef, .undef, .undef, .undef, .undef, .undef, .undef, .undef, .undef, .undef, .undef, .undef, .undef, .undef, .undef]
theorem more_loop (x : Su) (hx : x.ok) (hm : x.may) (dr : Int) (x1 : AV) (l : List Tp) (hI : IsTp x1 l) (st : St) (hg : st.get St.nil.next = some (.cells 0 x.cells)) (hlt : St.nil.next < st.next) :
    ∀ e, maskE M17b0l e = E17 x1 dr (setB x) .nils 0 → valR (outR M17.res (seqR (blockR 0 (iter (evC tabGl (evS 999) 999 M17b0) M17b0l 999 e st)) (evC tabGl (evS 999) 999 M17r0))) = some (.bool true) := by
  intro e he
  have ln := hI.len
  refine iter_leave (evC tabGl (evS 999) 999 M17b0) M17b0l (fun i e s => ∃ acc, maskE M17b0l e = E17 x1 dr (setB x) acc (i : Int) ∧ OwnG 2 s acc (tpC (cutT 10 (l.take i))) (cutT 10 (l.take i)).length ∧ s.get St.nil.next = some (.cells 0 x.cells) ∧ St.nil.next < s.next)
    (fun out => valR (outR M17.res (seqR (blockR 0 out) (evC tabGl (evS 999) 999 M17r0))) = some (.bool true)) (min l.length 2) ?_ ?_ (min l.length 2) 0 _ _ 999 (by omega) ⟨.nils, he, OwnG.nil _ _, hg, hlt⟩ (by omega)
  · rintro i e s hi ⟨acc, h1, h2, h3, h4⟩
    rw [h1]
    left
    have hil : i < l.length := by omega
    obtain ⟨r, hr⟩ := hI.ixa i hil
    obtain ⟨⟨id, val⟩, hx'⟩ : ∃ t, l[i] = t := ⟨_, rfl⟩
    have hcs := cutT_succ 10 l i hil
    rw [hx'] at hr hcs
    have d0 : decide ((i : Int) < (l.length : Nat)) = true := decide_eq_true (by omega)
    have d1 : decide ((i : Int) < 2) = true := decide_eq_true (by omega)
    have w1 : IntKind.i64.wrap ((i : Int) + 1) = ((i + 1 : Nat) : Int) := (wrapI _ (by omega) (by omega)).trans (by omega)
    have c0 : Ab.cut (.int .i64 id :: .str val :: r) 0 none = some (.int .i64 id) := by simp [Ab.cut]
    have c1 : Ab.cut (.str val :: r) 0 none = some (.str val) := by simp [Ab.cut]
    have f0 : faV 0 (.rp (.int .i64 id :: .str val :: r)) = some (.rp (.int .i64 id :: .str val :: r)) := faV_rp _ _ (by simp)
    have f1 : faV 1 (.rp (.int .i64 id :: .str val :: r)) = some (.rp (.str val :: r)) := faV_rp _ _ (by simp)
    have tx : ∀ s, evS (998 + 1) 22 [.str val, .int .i64 10] s = some (.str (val.take 10), s) := s22 998 val 10
    have hlen : (cutT 10 (l.take i)).length ≤ 2 := by rw [cutT_len, List.length_take]; omega
    obtain ⟨z1, S1, a1, a2, a3⟩ := (h2.ext (pl_ext s [.tick 2 0])).app (bytes := 24) (y := .sl [.int .i64 id, .str (val.take 10)] 1 (some (s.next, 0, 2))) (ds := [.int .i64 id, .str (val.take 10)]) (m := 1) rfl rfl (by decide) (by simp [fits]; omega)
    have k1 : S1.get St.nil.next = some (.cells 0 x.cells) := a3.2 _ _ _ (by rw [pl_next]; omega) (((pl_ext s _).get _ h4).trans h3)
    have k2 : St.nil.next < S1.next := by have := a3.1; rw [pl_next] at this; omega
    rw [show s = s.pl [] from rfl]
    simp only [M17b0, E17, ln, hr, c0, c1, f0, f1, d0, d1, w1, tx, a1, ev1_build, loadR_rp, qES0, qES1, qES2, env0, List.length_cons, List.length_nil, Nat.reduceAdd, Nat.reduceSub, List.replicate, List.cons_append, List.nil_append, opd, Env.put, Env.at, List.set_cons_zero, List.set_cons_succ, List.getD_cons_zero, List.getD_cons_succ, freezeL, resVs, oneOr, Option.map_some, Option.map_none, List.map_cons, List.map_nil, if_true, if_false, Bool.not_true, Bool.not_false, Bool.false_eq_true, reduceIte, decide_true, decide_false, Int.reduceLT, Int.reduceLE, Int.reduceGT, Int.reduceGE, Int.reduceEq, Int.reduceBEq, Int.reduceBNe, load_ptr, ldV_some, cellAt_cells, List.getElem?_cons_zero, List.getElem?_cons_succ, store_ptr, stO_some, setAt_0, setAt_1, setAt_2, setAt_3, setAt_4, setAt_5, setAt_6, setAt_7, setAt_8, setAt_9, setAt_10, setAt_11, setAt_12, cells_int, cells_bool, cells_str, cells_nils, cells_nilp, cells_ptr, cells_sl, cells_u8, cells_u16, cells_agg, get_upd_is, Option.isSome_some, upd_upd, ev1_nchkV, ev1_faV, nchkV_ptr, faV_ptr, ev1_extV, extV_tup, eqptr_nil, eqptr_ptr, Nat.zero_add, Nat.add_zero, qPL0, qPL1, qPL2, qPL3, qPL4, qPL5, beq_self_eq_true, qED0, qED1, placeR]
    rw [drawR_ok]; case h => simp (config := { decide := true }) [calm, calmPair, calmTwo, List.range, List.range.loop, sameO_refl, plg0]
    simp only [w1, qES0, qES1, qES2, env0, List.length_cons, List.length_nil, Nat.reduceAdd, Nat.reduceSub, List.replicate, List.cons_append, List.nil_append, opd, Env.put, Env.at, List.set_cons_zero, List.set_cons_succ, List.getD_cons_zero, List.getD_cons_succ, freezeL, resVs, oneOr, Option.map_some, Option.map_none, List.map_cons, List.map_nil, if_true, if_false, Bool.not_true, Bool.not_false, Bool.false_eq_true, reduceIte, decide_true, decide_false, Int.reduceLT, Int.reduceLE, Int.reduceGT, Int.reduceGE, Int.reduceEq, Int.reduceBEq, Int.reduceBNe, load_ptr, ldV_some, cellAt_cells, List.getElem?_cons_zero, List.getElem?_cons_succ, store_ptr, stO_some, setAt_0, setAt_1, setAt_2, setAt_3, setAt_4, setAt_5, setAt_6, setAt_7, setAt_8, setAt_9, setAt_10, setAt_11, setAt_12, cells_int, cells_bool, cells_str, cells_nils, cells_nilp, cells_ptr, cells_sl, cells_u8, cells_u16, cells_agg, get_upd_is, Option.isSome_some, upd_upd, ev1_nchkV, ev1_faV, nchkV_ptr, faV_ptr, ev1_extV, extV_tup, eqptr_nil, eqptr_ptr, Nat.zero_add, Nat.add_zero, qPL0, qPL1, qPL2, qPL3, qPL4, qPL5, beq_self_eq_true, qED0, qED1, placeR]
    refine ⟨_, _, rfl, z1, rfl, ?_, k1, k2⟩
    rw [hcs, tpC_append, List.length_append]
    exact a2
  · rintro e s ⟨acc, h1, h2, h3, h4⟩
    rw [h1]
    obtain ⟨m, hmm⟩ : ∃ m, cutT 10 (l.take (min l.length 2)) = m := ⟨_, rfl⟩
    have hml : m.length ≤ 2 := by rw [← hmm, cutT_len, List.length_take]; omega
    have h10 : ∀ t ∈ m, t.2.length ≤ 10 := by
      intro t ht
      rw [← hmm] at ht
      obtain ⟨u, _, rfl⟩ := List.mem_map.1 ht
      simp only [List.length_take]; omega
    rw [hmm] at h2
    have hIm : IsTp acc m := by
      rcases h2 with ⟨q1, q2, _⟩ | ⟨_, t, v, q, _⟩
      · exact .inl ⟨q1, List.length_eq_zero_iff.1 q2⟩
      · exact .inr ⟨_, q⟩
    have fz := hIm.freeze
    have h60 := s60 998 hIm (by omega)
    have dd : decide (((min l.length 2 : Nat) : Int) < (l.length : Nat)) = true ∧ decide (((min l.length 2 : Nat) : Int) < 2) = false ∨ decide (((min l.length 2 : Nat) : Int) < (l.length : Nat)) = false := by
      by_cases g : l.length ≤ 2
      · exact .inr (decide_eq_false (by omega))
      · exact .inl ⟨decide_eq_true (by omega), decide_eq_false (by omega)⟩
    generalize ((min l.length 2 : Nat) : Int) = q at dd
    refine ⟨?_, fun e' s' hh => ?_⟩
    · skip
      by_cases hp : putOk m
      · rw [if_pos hp, decide_eq_true hp] at h60
        have hel : (encL m).length ≤ 24 := by
          have : ∀ l : List Tp, (∀ t ∈ l, t.2.length ≤ 10) → (encL l).length ≤ 12 * l.length := by
            intro l
            induction l with
            | nil => intro _; simp [encL]
            | cons t l ih =>
              intro h
              have q1 := h t (by simp)
              have q2 := ih (fun t ht => h t (by simp [ht]))
              simp only [encL, List.flatMap_cons, List.length_append, encT, List.length_cons] at q2 ⊢
              omega
          have := this m h10
          omega
        have sa := str_add (setB x) (encL m) (by rw [setB_len]; omega)
        have g1 := s56 998 (setB x ++ encL m)
        rw [getS_setB x hx hm _ (getO_more x.o hm.2 m hp (by omega) (by omega))] at g1
        have r1 := i64_rem dr 5 (by omega)
        have l1 := tmod_le dr 5 (by omega)
        have w1 : IntKind.i64.wrap (dr.tmod 5 + 5) = dr.tmod 5 + 5 := wrapI _ (by omega) (by omega)
        have r2 := i64_rem (dr.tmod 5 + 5) 5 (by omega)
        rw [tmod_fix dr 5 (by omega)] at r2
        obtain ⟨j, hj⟩ : ∃ j : Nat, dr % 5 = (j : Int) := ⟨(dr % 5).toNat, by omega⟩
        have hj5 : j < 5 := by omega
        rw [hj] at r2
        have w2 : IntKind.i64.wrap ((j : Int) * 3) = (j : Int) * 3 := wrapI _ (by omega) (by omega)
        have w3 : IntKind.i64.wrap (10 + (j : Int) * 3) = ((10 + j * 3 : Nat) : Int) := (wrapI _ (by omega) (by omega)).trans (by omega)
        have w4 : IntKind.i64.wrap (((10 + j * 3 : Nat) : Int) + 3) = ((10 + j * 3 + 3 : Nat) : Int) := (wrapI _ (by omega) (by omega)).trans (by omega)
        have sl1 := slcS_str (setB x) ((10 + j * 3 : Nat) : Int) (by omega) (by rw [setB_len]; omega)
        rw [Int.toNat_natCast] at sl1
        have sl2 := slcS_from (setB x) (10 + j * 3 + 3) (by rw [setB_len]; omega)
        have sb := str_add ((setB x).take (10 + j * 3)) ((setB x).drop (10 + j * 3 + 3)) (by rw [List.length_take, List.length_drop, setB_len]; omega)
        have g2 := s56 998 ((setB x).take (10 + j * 3) ++ (setB x).drop (10 + j * 3 + 3))
        rw [getS_drop x j hj5] at g2
        obtain ⟨f, g, a, c, b, s0, w, z, ti⟩ := x
        simp only [getSV, Su.cells, suC, zeroS] at g1 g2 h3
        have q9 := eq9 f g a c b s0 w z ti
        have gq : ∀ l, (s.pl l).get St.nil.next = _ := fun l => ((pl_ext s l).get _ h4).trans h3
        generalize setB ⟨f, g, a, c, b, s0, w, z, ti⟩ = p at *
        generalize 10 + j * 3 + 3 = k3 at *
        generalize 10 + j * 3 = k0 at *
        generalize p.take k0 = p1 at *
        generalize p.drop k3 = p2 at *
        rw [show s = s.pl [] from rfl]
        rcases dd with ⟨d1, d2⟩ | d1
        · simp only [M17, M17r0, M17b0, E17, ln, d1, d2, h60, fz, sa, g1, r1, w1, r2, w2, w3, w4, sl1, sl2, sb, g2, gq, q9, i64_mul, ev1_slsV, ev1_extV, ev1_eqv, qES0, qES1, qES2, env0, List.length_cons, List.length_nil, Nat.reduceAdd, Nat.reduceSub, List.replicate, List.cons_append, List.nil_append, opd, Env.put, Env.at, List.set_cons_zero, List.set_cons_succ, List.getD_cons_zero, List.getD_cons_succ, freezeL, resVs, oneOr, Option.map_some, Option.map_none, List.map_cons, List.map_nil, if_true, if_false, Bool.not_true, Bool.not_false, Bool.false_eq_true, reduceIte, decide_true, decide_false, Int.reduceLT, Int.reduceLE, Int.reduceGT, Int.reduceGE, Int.reduceEq, Int.reduceBEq, Int.reduceBNe, load_ptr, ldV_some, cellAt_cells, List.getElem?_cons_zero, List.getElem?_cons_succ, store_ptr, stO_some, setAt_0, setAt_1, setAt_2, setAt_3, setAt_4, setAt_5, setAt_6, setAt_7, setAt_8, setAt_9, setAt_10, setAt_11, setAt_12, cells_int, cells_bool, cells_str, cells_nils, cells_nilp, cells_ptr, cells_sl, cells_u8, cells_u16, cells_agg, get_upd_is, Option.isSome_some, upd_upd, ev1_nchkV, ev1_faV, nchkV_ptr, faV_ptr, ev1_extV, extV_tup, eqptr_nil, eqptr_ptr, Nat.zero_add, Nat.add_zero, qPL0, qPL1, qPL2, qPL3, qPL4, qPL5, beq_self_eq_true, qED0, qED1, placeR]
          rw [drawR_ok]; case h => simp (config := { decide := true }) [calm, calmPair, calmTwo, List.range, List.range.loop, sameO_refl, plg0, plg1, plg2]
          simp only [M17, M17r0, M17b0, E17, ln, d1, d2, h60, fz, sa, g1, r1, w1, r2, w2, w3, w4, sl1, sl2, sb, g2, gq, q9, i64_mul, ev1_slsV, ev1_extV, ev1_eqv, qES0, qES1, qES2, env0, List.length_cons, List.length_nil, Nat.reduceAdd, Nat.reduceSub, List.replicate, List.cons_append, List.nil_append, opd, Env.put, Env.at, List.set_cons_zero, List.set_cons_succ, List.getD_cons_zero, List.getD_cons_succ, freezeL, resVs, oneOr, Option.map_some, Option.map_none, List.map_cons, List.map_nil, if_true, if_false, Bool.not_true, Bool.not_false, Bool.false_eq_true, reduceIte, decide_true, decide_false, Int.reduceLT, Int.reduceLE, Int.reduceGT, Int.reduceGE, Int.reduceEq, Int.reduceBEq, Int.reduceBNe, load_ptr, ldV_some, cellAt_cells, List.getElem?_cons_zero, List.getElem?_cons_succ, store_ptr, stO_some, setAt_0, setAt_1, setAt_2, setAt_3, setAt_4, setAt_5, setAt_6, setAt_7, setAt_8, setAt_9, setAt_10, setAt_11, setAt_12, cells_int, cells_bool, cells_str, cells_nils, cells_nilp, cells_ptr, cells_sl, cells_u8, cells_u16, cells_agg, get_upd_is, Option.isSome_some, upd_upd, ev1_nchkV, ev1_faV, nchkV_ptr, faV_ptr, ev1_extV, extV_tup, eqptr_nil, eqptr_ptr, Nat.zero_add, Nat.add_zero, qPL0, qPL1, qPL2, qPL3, qPL4, qPL5, beq_self_eq_true, qED0, qED1, placeR]
        · simp only [M17, M17r0, M17b0, E17, ln, d1, h60, fz, sa, g1, r1, w1, r2, w2, w3, w4, sl1, sl2, sb, g2, gq, q9, i64_mul, ev1_slsV, ev1_extV, ev1_eqv, qES0, qES1, qES2, env0, List.length_cons, List.length_nil, Nat.reduceAdd, Nat.reduceSub, List.replicate, List.cons_append, List.nil_append, opd, Env.put, Env.at, List.set_cons_zero, List.set_cons_succ, List.getD_cons_zero, List.getD_cons_succ, freezeL, resVs, oneOr, Option.map_some, Option.map_none, List.map_cons, List.map_nil, if_true, if_false, Bool.not_true, Bool.not_false, Bool.false_eq_true, reduceIte, decide_true, decide_false, Int.reduceLT, Int.reduceLE, Int.reduceGT, Int.reduceGE, Int.reduceEq, Int.reduceBEq, Int.reduceBNe, load_ptr, ldV_some, cellAt_cells, List.getElem?_cons_zero, List.getElem?_cons_succ, store_ptr, stO_some, setAt_0, setAt_1, setAt_2, setAt_3, setAt_4, setAt_5, setAt_6, setAt_7, setAt_8, setAt_9, setAt_10, setAt_11, setAt_12, cells_int, cells_bool, cells_str, cells_nils, cells_nilp, cells_ptr, cells_sl, cells_u8, cells_u16, cells_agg, get_upd_is, Option.isSome_some, upd_upd, ev1_nchkV, ev1_faV, nchkV_ptr, faV_ptr, ev1_extV, extV_tup, eqptr_nil, eqptr_ptr, Nat.zero_add, Nat.add_zero, qPL0, qPL1, qPL2, qPL3, qPL4, qPL5, beq_self_eq_true, qED0, qED1, placeR]
          rw [drawR_ok]; case h => simp (config := { decide := true }) [calm, calmPair, calmTwo, List.range, List.range.loop, sameO_refl, plg0, plg1, plg2]
          simp only [M17, M17r0, M17b0, E17, ln, d1, h60, fz, sa, g1, r1, w1, r2, w2, w3, w4, sl1, sl2, sb, g2, gq, q9, i64_mul, ev1_slsV, ev1_extV, ev1_eqv, qES0, qES1, qES2, env0, List.length_cons, List.length_nil, Nat.reduceAdd, Nat.reduceSub, List.replicate, List.cons_append, List.nil_append, opd, Env.put, Env.at, List.set_cons_zero, List.set_cons_succ, List.getD_cons_zero, List.getD_cons_succ, freezeL, resVs, oneOr, Option.map_some, Option.map_none, List.map_cons, List.map_nil, if_true, if_false, Bool.not_true, Bool.not_false, Bool.false_eq_true, reduceIte, decide_true, decide_false, Int.reduceLT, Int.reduceLE, Int.reduceGT, Int.reduceGE, Int.reduceEq, Int.reduceBEq, Int.reduceBNe, load_ptr, ldV_some, cellAt_cells, List.getElem?_cons_zero, List.getElem?_cons_succ, store_ptr, stO_some, setAt_0, setAt_1, setAt_2, setAt_3, setAt_4, setAt_5, setAt_6, setAt_7, setAt_8, setAt_9, setAt_10, setAt_11, setAt_12, cells_int, cells_bool, cells_str, cells_nils, cells_nilp, cells_ptr, cells_sl, cells_u8, cells_u16, cells_agg, get_upd_is, Option.isSome_some, upd_upd, ev1_nchkV, ev1_faV, nchkV_ptr, faV_ptr, ev1_extV, extV_tup, eqptr_nil, eqptr_ptr, Nat.zero_add, Nat.add_zero, qPL0, qPL1, qPL2, qPL3, qPL4, qPL5, beq_self_eq_true, qED0, qED1, placeR]
      · rw [if_neg hp, decide_eq_false hp] at h60
        rcases dd with ⟨d1, d2⟩ | d1
        · simp only [M17, M17r0, M17b0, E17, ln, d1, d2, h60, fz, ev1_extV, qES0, qES1, qES2, env0, List.length_cons, List.length_nil, Nat.reduceAdd, Nat.reduceSub, List.replicate, List.cons_append, List.nil_append, opd, Env.put, Env.at, List.set_cons_zero, List.set_cons_succ, List.getD_cons_zero, List.getD_cons_succ, freezeL, resVs, oneOr, Option.map_some, Option.map_none, List.map_cons, List.map_nil, if_true, if_false, Bool.not_true, Bool.not_false, Bool.false_eq_true, reduceIte, decide_true, decide_false, Int.reduceLT, Int.reduceLE, Int.reduceGT, Int.reduceGE, Int.reduceEq, Int.reduceBEq, Int.reduceBNe, load_ptr, ldV_some, cellAt_cells, List.getElem?_cons_zero, List.getElem?_cons_succ, store_ptr, stO_some, setAt_0, setAt_1, setAt_2, setAt_3, setAt_4, setAt_5, setAt_6, setAt_7, setAt_8, setAt_9, setAt_10, setAt_11, setAt_12, cells_int, cells_bool, cells_str, cells_nils, cells_nilp, cells_ptr, cells_sl, cells_u8, cells_u16, cells_agg, get_upd_is, Option.isSome_some, upd_upd, ev1_nchkV, ev1_faV, nchkV_ptr, faV_ptr, ev1_extV, extV_tup, eqptr_nil, eqptr_ptr, Nat.zero_add, Nat.add_zero, qPL0, qPL1, qPL2, qPL3, qPL4, qPL5, beq_self_eq_true]
        · simp only [M17, M17r0, M17b0, E17, ln, d1, h60, fz, ev1_extV, qES0, qES1, qES2, env0, List.length_cons, List.length_nil, Nat.reduceAdd, Nat.reduceSub, List.replicate, List.cons_append, List.nil_append, opd, Env.put, Env.at, List.set_cons_zero, List.set_cons_succ, List.getD_cons_zero, List.getD_cons_succ, freezeL, resVs, oneOr, Option.map_some, Option.map_none, List.map_cons, List.map_nil, if_true, if_false, Bool.not_true, Bool.not_false, Bool.false_eq_true, reduceIte, decide_true, decide_false, Int.reduceLT, Int.reduceLE, Int.reduceGT, Int.reduceGE, Int.reduceEq, Int.reduceBEq, Int.reduceBNe, load_ptr, ldV_some, cellAt_cells, List.getElem?_cons_zero, List.getElem?_cons_succ, store_ptr, stO_some, setAt_0, setAt_1, setAt_2, setAt_3, setAt_4, setAt_5, setAt_6, setAt_7, setAt_8, setAt_9, setAt_10, setAt_11, setAt_12, cells_int, cells_bool, cells_str, cells_nils, cells_nilp, cells_ptr, cells_sl, cells_u8, cells_u16, cells_agg, get_upd_is, Option.isSome_some, upd_upd, ev1_nchkV, ev1_faV, nchkV_ptr, faV_ptr, ev1_extV, extV_tup, eqptr_nil, eqptr_ptr, Nat.zero_add, Nat.add_zero, qPL0, qPL1, qPL2, qPL3, qPL4, qPL5, beq_self_eq_true]
    · rcases dd with ⟨d1, d2⟩ | d1
      · simp only [M17b0, E17, ln, d1, d2, qES0, qES1, qES2, env0, List.length_cons, List.length_nil, Nat.reduceAdd, Nat.reduceSub, List.replicate, List.cons_append, List.nil_append, opd, Env.put, Env.at, List.set_cons_zero, List.set_cons_succ, List.getD_cons_zero, List.getD_cons_succ, freezeL, resVs, oneOr, Option.map_some, Option.map_none, List.map_cons, List.map_nil, if_true, if_false, Bool.not_true, Bool.not_false, Bool.false_eq_true, reduceIte, decide_true, decide_false, Int.reduceLT, Int.reduceLE, Int.reduceGT, Int.reduceGE, Int.reduceEq, Int.reduceBEq, Int.reduceBNe, load_ptr, ldV_some, cellAt_cells, List.getElem?_cons_zero, List.getElem?_cons_succ, store_ptr, stO_some, setAt_0, setAt_1, setAt_2, setAt_3, setAt_4, setAt_5, setAt_6, setAt_7, setAt_8, setAt_9, setAt_10, setAt_11, setAt_12, cells_int, cells_bool, cells_str, cells_nils, cells_nilp, cells_ptr, cells_sl, cells_u8, cells_u16, cells_agg, get_upd_is, Option.isSome_some, upd_upd, ev1_nchkV, ev1_faV, nchkV_ptr, faV_ptr, ev1_extV, extV_tup, eqptr_nil, eqptr_ptr, Nat.zero_add, Nat.add_zero, qPL0, qPL1, qPL2, qPL3, qPL4, qPL5, beq_self_eq_true] at hh
        cases hh
      · simp only [M17b0, E17, ln, d1, qES0, qES1, qES2, env0, List.length_cons, List.length_nil, Nat.reduceAdd, Nat.reduceSub, List.replicate, List.cons_append, List.nil_append, opd, Env.put, Env.at, List.set_cons_zero, List.set_cons_succ, List.getD_cons_zero, List.getD_cons_succ, freezeL, resVs, oneOr, Option.map_some, Option.map_none, List.map_cons, List.map_nil, if_true, if_false, Bool.not_true, Bool.not_false, Bool.false_eq_true, reduceIte, decide_true, decide_false, Int.reduceLT, Int.reduceLE, Int.reduceGT, Int.reduceGE, Int.reduceEq, Int.reduceBEq, Int.reduceBNe, load_ptr, ldV_some, cellAt_cells, List.getElem?_cons_zero, List.getElem?_cons_succ, store_ptr, stO_some, setAt_0, setAt_1, setAt_2, setAt_3, setAt_4, setAt_5, setAt_6, setAt_7, setAt_8, setAt_9, setAt_10, setAt_11, setAt_12, cells_int, cells_bool, cells_str, cells_nils, cells_nilp, cells_ptr, cells_sl, cells_u8, cells_u16, cells_agg, get_upd_is, Option.isSome_some, upd_upd, ev1_nchkV, ev1_faV, nchkV_ptr, faV_ptr, ev1_extV, extV_tup, eqptr_nil, eqptr_ptr, Nat.zero_add, Nat.add_zero, qPL0, qPL1, qPL2, qPL3, qPL4, qPL5, beq_self_eq_true] at hh
        cases hh
end Go.Proofs.YtbeimfhodgmjhaaDoor
