/- qos.Put and the document's PutOffer, as the evaluator answers them. No conditions. -/
import Derived.Test.YtbeimfhodgmjhaaDoorQ8
set_option linter.unusedSimpArgs false
set_option linter.unusedVariables false
set_option maxRecDepth 100000
set_option maxHeartbeats 4000000
namespace Go.Proofs.YtbeimfhodgmjhaaDoor
open Go Go.Ab
theorem b41 (k : Nat) {v : AV} {l : List Tp} (h : IsTp v l) (hl : l.length ≤ 100) (s : St) : evB (k + 1) 41 [v] s = some (.tup [.str (if putOk l then encL l else []), .bool (decide (putOk l))], s) := evF_ext (H := hTPut) rfl (by
  simp only [List.map_cons, List.map_nil, hTPut, toTp_is h]; rw [if_pos hl])
theorem b60 (k : Nat) {v : AV} {l : List Tp} (h : IsTp v l) (hl : l.length ≤ 100) (s : St) : evB (k + 1) 60 [v] s = some (.tup [.str (if putOk l then encL l else []), .bool (decide (putOk l))], s) := evF_ext (H := hTPut) rfl (by
  simp only [List.map_cons, List.map_nil, hTPut, toTp_is h]; rw [if_pos hl])
theorem b67 (k : Nat) (t : List UInt8) (s : St) : evB (k + 1) 67 [.str t] s = some (getV (getL t), s) := evF_ext (H := hTGet) rfl rfl
theorem b40 (k : Nat) (t : List UInt8) (s : St) : evB (k + 1) 40 [.str t] s = some (getV (getL t), s) := evF_ext (H := hTGet) rfl rfl
theorem b68 (k : Nat) {v : AV} {l : List Tp} (h : IsTp v l) (hl : l.length ≤ 100) (id : Int) (s : St) : evB (k + 1) 68 [v, .int .i64 id] s = some (findV (findT id l), s) := evF_ext (H := hFind) rfl (by
  simp only [List.map_cons, List.map_nil, hFind, toTp_is h, dry1_int]; rw [if_pos hl])
theorem fill1_int (cs : List AV) (o : Nat) (k : IntKind) (n : Int) (h : o < cs.length) : fill1 cs o 1 (.int k n) = some (cs.set o (.int k n)) := fill1_c _ _ _ rfl h
theorem fill1_u8v (cs : List AV) (o : Nat) (x : UInt8) (h : o < cs.length) : fill1 cs o 1 (u8v x) = some (cs.set o (u8v x)) := fill1_c _ _ _ rfl h
/-! The bytes of an offer. -/
def u8n (n : Int) : UInt8 := UInt8.ofNat n.toNat
def Of5.sets (o : Of5) : List Int := [o.b, o.s, o.w, o.z, o.t]
def tupO (o : Of5) : List Tp := [(1, [u8n o.b]), (2, [u8n o.s]), (3, [u8n o.w]), (4, [u8n o.z]), (5, [u8n o.t])]
def offB (o : Of5) : List UInt8 := [1, 1, u8n o.b, 2, 1, u8n o.s, 3, 1, u8n o.w, 4, 1, u8n o.z, 5, 1, u8n o.t]
theorem encL_tupO (o : Of5) : encL (tupO o) = offB o := rfl
theorem putOk_tupO (o : Of5) : putOk (tupO o) := by
  refine ⟨fun t ht => ?_, by rw [encL_tupO]; simp [offB]⟩
  simp only [tupO, List.mem_cons, List.not_mem_nil, or_false] at ht
  rcases ht with rfl | rfl | rfl | rfl | rfl <;> (refine ⟨?_, ?_, ?_⟩ <;> simp)
def E23 (acc : AV) (o : Of5) (tk : Option (Nat × Nat × Nat)) (i : Int) : Env := [.undef, .undef, .undef, .undef, acc, .undef, .undef, .undef, .undef, .undef, .undef, .undef, .undef, .undef, .undef, .undef, .undef, .undef, .undef, .undef, .sl (o.sets.map (.int .i64 ·)) 5 tk, .int .i64 5, .int .i64 i, .undef, .undef, .undef, .undef, .undef, .undef, .undef, .undef, .undef, .undef, .undef, .undef, .undef, .undef, .undef, .undef, .undef, .undef, .undef]
theorem conv_b2s_one (a : UInt8) (tk) : convP .b2s (.sl [u8v a] 1 tk) = some (.str [a]) := by
  show (toBytes (bytesAV [a])).map AV.str = _
  rw [toBytes_bytesAV]; rfl
theorem tupO_at (o : Of5) (i : Nat) (hi : i < 5) : (tupO o).take (i + 1) = (tupO o).take i ++ [(((i : Nat) : Int) + 1, [u8n (o.sets.getD i 0)])] := by
  match i, hi with
  | 0, _ => rfl
  | 1, _ => rfl
  | 2, _ => rfl
  | 3, _ => rfl
  | 4, _ => rfl
theorem qput_val (o : Of5) : valR (evB 1000 23 [.agg o.cells] St.nil) = some (.tup [.str (if o.may then offB o else []), .bool (decide o.may)]) := by
  rw [show (1000 : Nat) = 999 + 1 from rfl, evB_in rfl tab23, show St.nil = St.nil.pl [] from rfl]
  have hm := b25 998 o
  by_cases g : o.may
  · rw [if_pos g, decide_eq_true g]
    rw [decide_eq_true g] at hm
    have g' : mayP o.b o.s o.w o.z o.t := g
    unfold mayP at g'
    have hset : ∀ i : Nat, i < 5 → 0 ≤ o.sets.getD i 0 ∧ o.sets.getD i 0 ≤ 255 := by
      intro i hi
      match i, hi with
      | 0, _ => show 0 ≤ o.b ∧ o.b ≤ 255; omega
      | 1, _ => show 0 ≤ o.s ∧ o.s ≤ 255; omega
      | 2, _ => show 0 ≤ o.w ∧ o.w ≤ 255; omega
      | 3, _ => show 0 ≤ o.z ∧ o.z ≤ 255; omega
      | 4, _ => show 0 ≤ o.t ∧ o.t ≤ 255; omega
    have key : ∀ e s tk, maskE M23b0l e = E23 .nils o tk 0 → valR (outR M23.res (seqR (blockR 0 (iter (evC tabGl (evB 999) 999 M23b0) M23b0l 999 e s)) (evC tabGl (evB 999) 999 M23r0))) = some (.tup [.str (offB o), .bool true]) := by
      intro e s tk he
      refine iter_leave (evC tabGl (evB 999) 999 M23b0) M23b0l (fun i e st => ∃ acc, maskE M23b0l e = E23 acc o tk (i : Int) ∧ OwnG 2 st acc (tpC ((tupO o).take i)) ((tupO o).take i).length)
        (fun out => valR (outR M23.res (seqR (blockR 0 out) (evC tabGl (evB 999) 999 M23r0))) = some (.tup [.str (offB o), .bool true])) 5 ?_ ?_ 5 0 _ _ 999 (by omega) ⟨.nils, he, OwnG.nil _ _⟩ (by omega)
      · rintro i e st hi ⟨acc, h1, h2⟩
        rw [h1]
        left
        have d0 : decide ((i : Int) < 5) = true := decide_eq_true (by omega)
        have w1 : IntKind.i64.wrap ((i : Int) + 1) = (i : Int) + 1 := wrapI _ (by omega) (by omega)
        have x : ixaV 1 (.sl (o.sets.map (.int .i64 ·)) 5 tk) (.int .i64 (i : Int)) = some (.rp ((o.sets.drop i).map (.int .i64 ·))) := by
          have h1 : idx 5 (.int .i64 (i : Int)) = some i := by simp [idx]; omega
          simp only [ixaV, h1, Nat.mul_one, List.map_drop]
        obtain ⟨a, ha⟩ : ∃ a, o.sets.getD i 0 = a := ⟨_, rfl⟩
        have hs := hset i hi
        rw [ha] at hs
        have c : Ab.cut ((o.sets.drop i).map (AV.int .i64 ·)) 0 none = some (.int .i64 a) := by
          simp only [Ab.cut, List.getElem?_map, List.getElem?_drop, Nat.add_zero]
          rw [← ha, List.getD_eq_getElem?_getD, List.getElem?_eq_getElem (show i < o.sets.length from hi)]
          rfl
        have b1 := u8of a hs.1 hs.2
        have b2 := conv_b2s_one (UInt8.ofNat a.toNat)
        obtain ⟨z1, S1, a1, a2, a3⟩ := (h2.ext (pl_ext st [.tick 1 0, .tick 2 0])).app (bytes := 24) (y := .sl [.int .i64 ((i : Int) + 1), .str [UInt8.ofNat a.toNat]] 1 (some (st.next + 1, 0, 2))) (ds := [.int .i64 ((i : Int) + 1), .str [UInt8.ofNat a.toNat]]) (m := 1) rfl rfl (by decide) (by simp [fits, List.length_take, tupO]; omega)
        have f8 : ∀ n : Int, fill1 [.int .u8 0] 0 1 (u8v (UInt8.ofNat a.toNat)) = some [u8v (UInt8.ofNat a.toNat)] := fun _ => fill1_c _ _ _ rfl (by simp)
        have f9 := f8 0
        rw [show st = st.pl [] from rfl]
        simp only [M23b0, E23, d0, w1, x, c, b1, b2, a1, f9, conv_int, loadR_rp, ev1_build, qES0, qES1, qES2, env0, List.length_cons, List.length_nil, Nat.reduceAdd, Nat.reduceSub, List.replicate, List.cons_append, List.nil_append, opd, Env.put, Env.at, List.set_cons_zero, List.set_cons_succ, List.getD_cons_zero, List.getD_cons_succ, freezeL, resVs, oneOr, Option.map_some, Option.map_none, List.map_cons, List.map_nil, if_true, if_false, Bool.not_true, Bool.not_false, Bool.false_eq_true, reduceIte, decide_true, decide_false, Int.reduceLT, Int.reduceLE, Int.reduceGT, Int.reduceGE, Int.reduceEq, Int.reduceBEq, Int.reduceBNe, load_ptr, ldV_some, cellAt_cells, List.getElem?_cons_zero, List.getElem?_cons_succ, store_ptr, stO_some, setAt_0, setAt_1, setAt_2, setAt_3, setAt_4, setAt_5, setAt_6, setAt_7, setAt_8, setAt_9, setAt_10, setAt_11, setAt_12, cells_int, cells_bool, cells_str, cells_nils, cells_nilp, cells_ptr, cells_sl, cells_u8, cells_u16, cells_agg, get_upd_is, Option.isSome_some, upd_upd, ev1_nchkV, ev1_faV, nchkV_ptr, faV_ptr, ev1_extV, extV_tup, eqptr_nil, eqptr_ptr, Nat.zero_add, Nat.add_zero, qPL0, qPL1, qPL2, qPL3, qPL4, qPL5, beq_self_eq_true]
        refine ⟨_, _, rfl, z1, rfl, ?_⟩
        rw [tupO_at o i hi, tpC_append, List.length_append, ha]
        exact a2
      · rintro e st ⟨acc, h1, h2⟩
        rw [h1]
        have ht : (tupO o).take 5 = tupO o := rfl
        rw [ht] at h2
        have hI : IsTp acc (tupO o) := by
          rcases h2 with ⟨_, h, _⟩ | ⟨_, t, v, h, _⟩
          · exact absurd h (by simp [tupO])
          · exact .inr ⟨_, h⟩
        have h41 := b41 998 hI (by simp [tupO])
        rw [if_pos (putOk_tupO o), decide_eq_true (putOk_tupO o), encL_tupO] at h41
        have fz := hI.freeze
        have d0 : decide (((5 : Nat) : Int) < 5) = false := rfl
        refine ⟨?_, fun e' s' hh => ?_⟩
        · simp only [M23, M23r0, M23b0, E23, d0, h41, fz, qES0, qES1, qES2, env0, List.length_cons, List.length_nil, Nat.reduceAdd, Nat.reduceSub, List.replicate, List.cons_append, List.nil_append, opd, Env.put, Env.at, List.set_cons_zero, List.set_cons_succ, List.getD_cons_zero, List.getD_cons_succ, freezeL, resVs, oneOr, Option.map_some, Option.map_none, List.map_cons, List.map_nil, if_true, if_false, Bool.not_true, Bool.not_false, Bool.false_eq_true, reduceIte, decide_true, decide_false, Int.reduceLT, Int.reduceLE, Int.reduceGT, Int.reduceGE, Int.reduceEq, Int.reduceBEq, Int.reduceBNe, load_ptr, ldV_some, cellAt_cells, List.getElem?_cons_zero, List.getElem?_cons_succ, store_ptr, stO_some, setAt_0, setAt_1, setAt_2, setAt_3, setAt_4, setAt_5, setAt_6, setAt_7, setAt_8, setAt_9, setAt_10, setAt_11, setAt_12, cells_int, cells_bool, cells_str, cells_nils, cells_nilp, cells_ptr, cells_sl, cells_u8, cells_u16, cells_agg, get_upd_is, Option.isSome_some, upd_upd, ev1_nchkV, ev1_faV, nchkV_ptr, faV_ptr, ev1_extV, extV_tup, eqptr_nil, eqptr_ptr, Nat.zero_add, Nat.add_zero, qPL0, qPL1, qPL2, qPL3, qPL4, qPL5, beq_self_eq_true]
        · simp only [M23b0, E23, d0, qES0, qES1, qES2, env0, List.length_cons, List.length_nil, Nat.reduceAdd, Nat.reduceSub, List.replicate, List.cons_append, List.nil_append, opd, Env.put, Env.at, List.set_cons_zero, List.set_cons_succ, List.getD_cons_zero, List.getD_cons_succ, freezeL, resVs, oneOr, Option.map_some, Option.map_none, List.map_cons, List.map_nil, if_true, if_false, Bool.not_true, Bool.not_false, Bool.false_eq_true, reduceIte, decide_true, decide_false, Int.reduceLT, Int.reduceLE, Int.reduceGT, Int.reduceGE, Int.reduceEq, Int.reduceBEq, Int.reduceBNe, load_ptr, ldV_some, cellAt_cells, List.getElem?_cons_zero, List.getElem?_cons_succ, store_ptr, stO_some, setAt_0, setAt_1, setAt_2, setAt_3, setAt_4, setAt_5, setAt_6, setAt_7, setAt_8, setAt_9, setAt_10, setAt_11, setAt_12, cells_int, cells_bool, cells_str, cells_nils, cells_nilp, cells_ptr, cells_sl, cells_u8, cells_u16, cells_agg, get_upd_is, Option.isSome_some, upd_upd, ev1_nchkV, ev1_faV, nchkV_ptr, faV_ptr, ev1_extV, extV_tup, eqptr_nil, eqptr_ptr, Nat.zero_add, Nat.add_zero, qPL0, qPL1, qPL2, qPL3, qPL4, qPL5, beq_self_eq_true] at hh
          cases hh
    simp only [Of5.cells, ofC] at hm
    have ln : ∀ cs tk, lenV (.sl cs 5 tk) = some (.int .i64 5) := fun _ _ => rfl
    simp only [M23, Of5.cells, ofC, hm, ln, evC_loop, ev1_boxV, qES0, qES1, qES2, env0, List.length_cons, List.length_nil, Nat.reduceAdd, Nat.reduceSub, List.replicate, List.cons_append, List.nil_append, opd, Env.put, Env.at, List.set_cons_zero, List.set_cons_succ, List.getD_cons_zero, List.getD_cons_succ, freezeL, resVs, oneOr, Option.map_some, Option.map_none, List.map_cons, List.map_nil, if_true, if_false, Bool.not_true, Bool.not_false, Bool.false_eq_true, reduceIte, decide_true, decide_false, Int.reduceLT, Int.reduceLE, Int.reduceGT, Int.reduceGE, Int.reduceEq, Int.reduceBEq, Int.reduceBNe, load_ptr, ldV_some, cellAt_cells, List.getElem?_cons_zero, List.getElem?_cons_succ, store_ptr, stO_some, setAt_0, setAt_1, setAt_2, setAt_3, setAt_4, setAt_5, setAt_6, setAt_7, setAt_8, setAt_9, setAt_10, setAt_11, setAt_12, cells_int, cells_bool, cells_str, cells_nils, cells_nilp, cells_ptr, cells_sl, cells_u8, cells_u16, cells_agg, get_upd_is, Option.isSome_some, upd_upd, ev1_nchkV, ev1_faV, nchkV_ptr, faV_ptr, ev1_extV, extV_tup, eqptr_nil, eqptr_ptr, Nat.zero_add, Nat.add_zero, qPL0, qPL1, qPL2, qPL3, qPL4, qPL5, beq_self_eq_true]
    exact key _ _ _ rfl
  · rw [if_neg g, decide_eq_false g]
    rw [decide_eq_false g] at hm
    simp only [Of5.cells, ofC] at hm
    simp only [M23, Of5.cells, ofC, hm, ev1_boxV, qES0, qES1, qES2, env0, List.length_cons, List.length_nil, Nat.reduceAdd, Nat.reduceSub, List.replicate, List.cons_append, List.nil_append, opd, Env.put, Env.at, List.set_cons_zero, List.set_cons_succ, List.getD_cons_zero, List.getD_cons_succ, freezeL, resVs, oneOr, Option.map_some, Option.map_none, List.map_cons, List.map_nil, if_true, if_false, Bool.not_true, Bool.not_false, Bool.false_eq_true, reduceIte, decide_true, decide_false, Int.reduceLT, Int.reduceLE, Int.reduceGT, Int.reduceGE, Int.reduceEq, Int.reduceBEq, Int.reduceBNe, load_ptr, ldV_some, cellAt_cells, List.getElem?_cons_zero, List.getElem?_cons_succ, store_ptr, stO_some, setAt_0, setAt_1, setAt_2, setAt_3, setAt_4, setAt_5, setAt_6, setAt_7, setAt_8, setAt_9, setAt_10, setAt_11, setAt_12, cells_int, cells_bool, cells_str, cells_nils, cells_nilp, cells_ptr, cells_sl, cells_u8, cells_u16, cells_agg, get_upd_is, Option.isSome_some, upd_upd, ev1_nchkV, ev1_faV, nchkV_ptr, faV_ptr, ev1_extV, extV_tup, eqptr_nil, eqptr_ptr, Nat.zero_add, Nat.add_zero, qPL0, qPL1, qPL2, qPL3, qPL4, qPL5, beq_self_eq_true]
theorem rqput_val (o : Of5) : valR (evB 1000 24 [.agg o.cells] St.nil) = some (.tup [.str (if o.may then offB o else []), .bool (decide o.may)]) := by
  rw [show (1000 : Nat) = 999 + 1 from rfl, evB_in rfl tab24, show St.nil = St.nil.pl [] from rfl]
  have hm := b58 998 o
  by_cases g : o.may
  · rw [if_pos g, decide_eq_true g]
    rw [decide_eq_true g] at hm
    have g' : mayP o.b o.s o.w o.z o.t := g
    unfold mayP at g'
    have b1 := u8of o.b (by omega) (by omega)
    have b2 := u8of o.s (by omega) (by omega)
    have b3 := u8of o.w (by omega) (by omega)
    have b4 := u8of o.z (by omega) (by omega)
    have b5 := u8of o.t (by omega) (by omega)
    simp only [Of5.cells, ofC] at hm
    have cb : ∀ tk, convP .b2s (.sl [.int .u8 1, .int .u8 1, u8v (UInt8.ofNat o.b.toNat), .int .u8 2, .int .u8 1, u8v (UInt8.ofNat o.s.toNat), .int .u8 3, .int .u8 1, u8v (UInt8.ofNat o.w.toNat), .int .u8 4, .int .u8 1, u8v (UInt8.ofNat o.z.toNat), .int .u8 5, .int .u8 1, u8v (UInt8.ofNat o.t.toNat)] 15 tk) = some (.str (offB o)) := by
      intro tk
      show (toBytes (bytesAV (offB o))).map AV.str = _
      rw [toBytes_bytesAV]; rfl
    simp only [M24, Of5.cells, ofC, hm, b1, b2, b3, b4, b5, cb, fill1_int, fill1_u8v, conv_int, ev1_boxV, qES0, qES1, qES2, env0, List.length_cons, List.length_nil, Nat.reduceAdd, Nat.reduceSub, List.replicate, List.cons_append, List.nil_append, opd, Env.put, Env.at, List.set_cons_zero, List.set_cons_succ, List.getD_cons_zero, List.getD_cons_succ, freezeL, resVs, oneOr, Option.map_some, Option.map_none, List.map_cons, List.map_nil, if_true, if_false, Bool.not_true, Bool.not_false, Bool.false_eq_true, reduceIte, decide_true, decide_false, Int.reduceLT, Int.reduceLE, Int.reduceGT, Int.reduceGE, Int.reduceEq, Int.reduceBEq, Int.reduceBNe, load_ptr, ldV_some, cellAt_cells, List.getElem?_cons_zero, List.getElem?_cons_succ, store_ptr, stO_some, setAt_0, setAt_1, setAt_2, setAt_3, setAt_4, setAt_5, setAt_6, setAt_7, setAt_8, setAt_9, setAt_10, setAt_11, setAt_12, cells_int, cells_bool, cells_str, cells_nils, cells_nilp, cells_ptr, cells_sl, cells_u8, cells_u16, cells_agg, get_upd_is, Option.isSome_some, upd_upd, ev1_nchkV, ev1_faV, nchkV_ptr, faV_ptr, ev1_extV, extV_tup, eqptr_nil, eqptr_ptr, Nat.zero_add, Nat.add_zero, qPL0, qPL1, qPL2, qPL3, qPL4, qPL5, beq_self_eq_true, Nat.reduceLT]
  · rw [if_neg g, decide_eq_false g]
    rw [decide_eq_false g] at hm
    simp only [Of5.cells, ofC] at hm
    simp only [M24, Of5.cells, ofC, hm, ev1_boxV, qES0, qES1, qES2, env0, List.length_cons, List.length_nil, Nat.reduceAdd, Nat.reduceSub, List.replicate, List.cons_append, List.nil_append, opd, Env.put, Env.at, List.set_cons_zero, List.set_cons_succ, List.getD_cons_zero, List.getD_cons_succ, freezeL, resVs, oneOr, Option.map_some, Option.map_none, List.map_cons, List.map_nil, if_true, if_false, Bool.not_true, Bool.not_false, Bool.false_eq_true, reduceIte, decide_true, decide_false, Int.reduceLT, Int.reduceLE, Int.reduceGT, Int.reduceGE, Int.reduceEq, Int.reduceBEq, Int.reduceBNe, load_ptr, ldV_some, cellAt_cells, List.getElem?_cons_zero, List.getElem?_cons_succ, store_ptr, stO_some, setAt_0, setAt_1, setAt_2, setAt_3, setAt_4, setAt_5, setAt_6, setAt_7, setAt_8, setAt_9, setAt_10, setAt_11, setAt_12, cells_int, cells_bool, cells_str, cells_nils, cells_nilp, cells_ptr, cells_sl, cells_u8, cells_u16, cells_agg, get_upd_is, Option.isSome_some, upd_upd, ev1_nchkV, ev1_faV, nchkV_ptr, faV_ptr, ev1_extV, extV_tup, eqptr_nil, eqptr_ptr, Nat.zero_add, Nat.add_zero, qPL0, qPL1, qPL2, qPL3, qPL4, qPL5, beq_self_eq_true]
end Go.Proofs.YtbeimfhodgmjhaaDoor
/- qos.Get, as the evaluator answers it. No conditions. -/
set_option linter.unusedSimpArgs false
set_option linter.unusedVariables false
set_option maxRecDepth 100000
set_option maxHeartbeats 4000000
namespace Go.Proofs.YtbeimfhodgmjhaaDoor
open Go Go.Ab
def setOf (l : List Tp) (id : Int) : Int := match findT id l with
  | some [b] => (b.toNat : Int)
  | _ => 0
def ofL (l : List Tp) : Of5 := ⟨setOf l 1, setOf l 2, setOf l 3, setOf l 4, setOf l 5⟩
def getO (s : List UInt8) : Option Of5 := match getL s with
  | some l => if (ofL l).may then some (ofL l) else none
  | none => none
def getOV (r : Option Of5) : AV := match r with
  | some o => .tup [.agg o.cells, .bool true]
  | none => .tup [.agg (ofC 0 0 0 0 0), .bool false]
theorem getT_len : ∀ n s l, getT n s = some l → l.length < n := by
  intro n
  induction n with
  | zero => intro s l h; cases h
  | succ n ih =>
    intro s l h
    match s, h with
    | [], h => cases h; simp
    | [_], h => cases h
    | a :: b :: r, h =>
      unfold getT at h
      split at h
      · cases h
      · obtain ⟨m, h1, rfl⟩ := Option.map_eq_some_iff.1 h
        have := ih _ _ h1
        simp; omega
theorem getL_len {s : List UInt8} {l : List Tp} (h : getL s = some l) : l.length ≤ 100 := by
  unfold getL at h
  split at h
  · cases h
  · have := getT_len _ _ _ h; omega
theorem not_may (o : Of5) (j : Nat) (hj : j < 5) (h : o.sets.getD j 0 = 0) : ¬ o.may := by
  intro hm
  have hm' : mayP o.b o.s o.w o.z o.t := hm
  unfold mayP at hm'
  match j, hj with
  | 0, _ => have : o.b = 0 := h; omega
  | 1, _ => have : o.s = 0 := h; omega
  | 2, _ => have : o.w = 0 := h; omega
  | 3, _ => have : o.z = 0 := h; omega
  | 4, _ => have : o.t = 0 := h; omega
theorem ofL_sets (l : List Tp) (j : Nat) (hj : j < 5) : (ofL l).sets.getD j 0 = setOf l ((j : Int) + 1) := by
  match j, hj with
  | 0, _ => rfl
  | 1, _ => rfl
  | 2, _ => rfl
  | 3, _ => rfl
  | 4, _ => rfl
theorem ixpV_at (len b i : Nat) (hi : i < len) : ixpV len 1 (.ptr b 0) (.int .i64 (i : Int)) = some (.ptr b i) := by
  have h1 : idx len (.int .i64 (i : Int)) = some i := by simp [idx]; omega
  simp only [ixpV, h1]
  simp
def Z5 : Ab.Obj := .cells 0 [.int .i64 0, .int .i64 0, .int .i64 0, .int .i64 0, .int .i64 0]
def S38 (cs : List Int) : St := St.nil.pl [Z5, .cells 0 (cs.map (.int .i64 ·))]
theorem store38 (cs : List Int) (i : Nat) (hi : i < cs.length) (x : Int) : storeV 1 (S38 cs) (.ptr (St.nil.next + 1) i) (.int .i64 x) = some (.undef, S38 (cs.set i x)) := by
  simp only [storeV, S38, plg1, cellsOf, storeL, List.length_cons, List.length_nil, if_true, fillL, plu1, List.length_map]
  rw [if_pos (by omega)]
  simp [List.map_set]
def E38 (ts : AV) (ok : Bool) (i : Int) : Env := [.undef, .undef, .ptr St.nil.next 0, .undef, ts, .bool ok, .ptr (St.nil.next + 1) 0, .undef, .undef, .undef, .undef, .undef, .undef, .undef, .undef, .undef, .int .i64 i, .undef, .undef, .undef, .undef, .undef, .undef, .undef, .undef, .undef, .undef, .undef, .undef, .undef, .undef, .undef, .undef, .undef, .undef, .undef, .undef, .undef, .undef, .undef, .undef, .undef, .undef, .undef, .undef, .undef, .undef, .undef, .undef, .undef, .undef, .undef, .undef, .undef, .undef, .undef, .undef, .undef, .undef, .undef, .undef, .undef]
def ok1 : Option (List UInt8) → Bool
  | some [_] => true
  | _ => false
theorem round38 (l : List Tp) (hl : l.length ≤ 100) (ok : Bool) (cs : List Int) (hc : cs.length = 5) (i : Nat) (hi : i < 5) :
    ∃ e', evC tabGl (evB 999) 999 M38b0 (E38 (tpV l) ok i) (S38 cs) = some (.nrm, e', S38 (if ok && ok1 (findT ((i : Int) + 1) l) then cs.set i (setOf l ((i : Int) + 1)) else cs)) ∧ maskE M38b0l e' = E38 (tpV l) (ok && ok1 (findT ((i : Int) + 1) l)) ((i + 1 : Nat) : Int) := by
  have h68 := b68 998 (tpV_is l) hl ((i : Int) + 1)
  have fz := (tpV_is l).freeze
  have d0 : decide ((i : Int) < 5) = true := decide_eq_true (by omega)
  have w1 : IntKind.i64.wrap ((i : Int) + 1) = (i : Int) + 1 := wrapI _ (by omega) (by omega)
  have hx := ixpV_at 5 (St.nil.next + 1) i hi
  cases hf : findT ((i : Int) + 1) l with
  | none =>
    rw [hf] at h68
    simp only [findV] at h68
    cases ok <;>
    · simp only [M38b0, E38, d0, w1, h68, fz, ok1, Bool.and_false, Bool.false_and, ev1_ixpV, ev1_ixsV, ev1_extV, ev1_lensV', qES0, qES1, qES2, env0, List.length_cons, List.length_nil, Nat.reduceAdd, Nat.reduceSub, List.replicate, List.cons_append, List.nil_append, opd, Env.put, Env.at, List.set_cons_zero, List.set_cons_succ, List.getD_cons_zero, List.getD_cons_succ, freezeL, resVs, oneOr, Option.map_some, Option.map_none, List.map_cons, List.map_nil, if_true, if_false, Bool.not_true, Bool.not_false, Bool.false_eq_true, reduceIte, decide_true, decide_false, Int.reduceLT, Int.reduceLE, Int.reduceGT, Int.reduceGE, Int.reduceEq, Int.reduceBEq, Int.reduceBNe, load_ptr, ldV_some, cellAt_cells, List.getElem?_cons_zero, List.getElem?_cons_succ, store_ptr, stO_some, setAt_0, setAt_1, setAt_2, setAt_3, setAt_4, setAt_5, setAt_6, setAt_7, setAt_8, setAt_9, setAt_10, setAt_11, setAt_12, cells_int, cells_bool, cells_str, cells_nils, cells_nilp, cells_ptr, cells_sl, cells_u8, cells_u16, cells_agg, get_upd_is, Option.isSome_some, upd_upd, ev1_nchkV, ev1_faV, nchkV_ptr, faV_ptr, ev1_extV, extV_tup, eqptr_nil, eqptr_ptr, Nat.zero_add, Nat.add_zero, qPL0, qPL1, qPL2, qPL3, qPL4, qPL5, beq_self_eq_true]
      exact ⟨_, rfl, rfl⟩
  | some x =>
    rw [hf] at h68
    simp only [findV] at h68
    match x, hf, h68 with
    | [], hf, h68 =>
      have lx : lensV' (.str []) = some (.int .i64 0) := rfl
      cases ok <;>
      · simp only [M38b0, E38, d0, w1, h68, fz, lx, ok1, Bool.and_false, Bool.false_and, ev1_ixpV, ev1_ixsV, ev1_extV, ev1_lensV', qES0, qES1, qES2, env0, List.length_cons, List.length_nil, Nat.reduceAdd, Nat.reduceSub, List.replicate, List.cons_append, List.nil_append, opd, Env.put, Env.at, List.set_cons_zero, List.set_cons_succ, List.getD_cons_zero, List.getD_cons_succ, freezeL, resVs, oneOr, Option.map_some, Option.map_none, List.map_cons, List.map_nil, if_true, if_false, Bool.not_true, Bool.not_false, Bool.false_eq_true, reduceIte, decide_true, decide_false, Int.reduceLT, Int.reduceLE, Int.reduceGT, Int.reduceGE, Int.reduceEq, Int.reduceBEq, Int.reduceBNe, load_ptr, ldV_some, cellAt_cells, List.getElem?_cons_zero, List.getElem?_cons_succ, store_ptr, stO_some, setAt_0, setAt_1, setAt_2, setAt_3, setAt_4, setAt_5, setAt_6, setAt_7, setAt_8, setAt_9, setAt_10, setAt_11, setAt_12, cells_int, cells_bool, cells_str, cells_nils, cells_nilp, cells_ptr, cells_sl, cells_u8, cells_u16, cells_agg, get_upd_is, Option.isSome_some, upd_upd, ev1_nchkV, ev1_faV, nchkV_ptr, faV_ptr, ev1_extV, extV_tup, eqptr_nil, eqptr_ptr, Nat.zero_add, Nat.add_zero, qPL0, qPL1, qPL2, qPL3, qPL4, qPL5, beq_self_eq_true]
        exact ⟨_, rfl, rfl⟩
    | a :: c :: r, hf, h68 =>
      have lx : lensV' (.str (a :: c :: r)) = some (.int .i64 ((r.length + 2 : Nat) : Int)) := rfl
      have q : (((r.length + 2 : Nat) : Int) == 1) = false := by simp; omega
      cases ok
      · simp only [M38b0, E38, d0, w1, h68, fz, lx, q, ok1, Bool.and_false, Bool.false_and, ev1_ixpV, ev1_ixsV, ev1_extV, ev1_lensV', qES0, qES1, qES2, env0, List.length_cons, List.length_nil, Nat.reduceAdd, Nat.reduceSub, List.replicate, List.cons_append, List.nil_append, opd, Env.put, Env.at, List.set_cons_zero, List.set_cons_succ, List.getD_cons_zero, List.getD_cons_succ, freezeL, resVs, oneOr, Option.map_some, Option.map_none, List.map_cons, List.map_nil, if_true, if_false, Bool.not_true, Bool.not_false, Bool.false_eq_true, reduceIte, decide_true, decide_false, Int.reduceLT, Int.reduceLE, Int.reduceGT, Int.reduceGE, Int.reduceEq, Int.reduceBEq, Int.reduceBNe, load_ptr, ldV_some, cellAt_cells, List.getElem?_cons_zero, List.getElem?_cons_succ, store_ptr, stO_some, setAt_0, setAt_1, setAt_2, setAt_3, setAt_4, setAt_5, setAt_6, setAt_7, setAt_8, setAt_9, setAt_10, setAt_11, setAt_12, cells_int, cells_bool, cells_str, cells_nils, cells_nilp, cells_ptr, cells_sl, cells_u8, cells_u16, cells_agg, get_upd_is, Option.isSome_some, upd_upd, ev1_nchkV, ev1_faV, nchkV_ptr, faV_ptr, ev1_extV, extV_tup, eqptr_nil, eqptr_ptr, Nat.zero_add, Nat.add_zero, qPL0, qPL1, qPL2, qPL3, qPL4, qPL5, beq_self_eq_true]
        exact ⟨_, rfl, rfl⟩
      · simp only [M38b0, E38, d0, w1, h68, fz, lx, q, ok1, Bool.and_false, Bool.false_and, ev1_ixpV, ev1_ixsV, ev1_extV, ev1_lensV', qES0, qES1, qES2, env0, List.length_cons, List.length_nil, Nat.reduceAdd, Nat.reduceSub, List.replicate, List.cons_append, List.nil_append, opd, Env.put, Env.at, List.set_cons_zero, List.set_cons_succ, List.getD_cons_zero, List.getD_cons_succ, freezeL, resVs, oneOr, Option.map_some, Option.map_none, List.map_cons, List.map_nil, if_true, if_false, Bool.not_true, Bool.not_false, Bool.false_eq_true, reduceIte, decide_true, decide_false, Int.reduceLT, Int.reduceLE, Int.reduceGT, Int.reduceGE, Int.reduceEq, Int.reduceBEq, Int.reduceBNe, load_ptr, ldV_some, cellAt_cells, List.getElem?_cons_zero, List.getElem?_cons_succ, store_ptr, stO_some, setAt_0, setAt_1, setAt_2, setAt_3, setAt_4, setAt_5, setAt_6, setAt_7, setAt_8, setAt_9, setAt_10, setAt_11, setAt_12, cells_int, cells_bool, cells_str, cells_nils, cells_nilp, cells_ptr, cells_sl, cells_u8, cells_u16, cells_agg, get_upd_is, Option.isSome_some, upd_upd, ev1_nchkV, ev1_faV, nchkV_ptr, faV_ptr, ev1_extV, extV_tup, eqptr_nil, eqptr_ptr, Nat.zero_add, Nat.add_zero, qPL0, qPL1, qPL2, qPL3, qPL4, qPL5, beq_self_eq_true]
        exact ⟨_, rfl, rfl⟩
    | [a], hf, h68 =>
      have lx : lensV' (.str [a]) = some (.int .i64 1) := rfl
      have x0 : ixsV (.str [a]) (.int .i64 0) = some (.int .u8 (a.toNat : Int)) := ixsV_at [a] 0 (by simp)
      have wa : IntKind.i64.wrap (a.toNat : Int) = (a.toNat : Int) := wrapI _ (by omega) (by have := a.toNat_lt; omega)
      have hset : setOf l ((i : Int) + 1) = (a.toNat : Int) := by unfold setOf; rw [hf]
      have st := store38 cs i (by omega) (a.toNat : Int)
      rw [hset]
      cases ok
      · simp only [M38b0, E38, d0, w1, h68, fz, lx, x0, wa, hx, st, ok1, Bool.and_false, Bool.false_and, Bool.and_true, Bool.true_and, conv_int, ev1_ixpV, ev1_ixsV, ev1_extV, ev1_lensV', qES0, qES1, qES2, env0, List.length_cons, List.length_nil, Nat.reduceAdd, Nat.reduceSub, List.replicate, List.cons_append, List.nil_append, opd, Env.put, Env.at, List.set_cons_zero, List.set_cons_succ, List.getD_cons_zero, List.getD_cons_succ, freezeL, resVs, oneOr, Option.map_some, Option.map_none, List.map_cons, List.map_nil, if_true, if_false, Bool.not_true, Bool.not_false, Bool.false_eq_true, reduceIte, decide_true, decide_false, Int.reduceLT, Int.reduceLE, Int.reduceGT, Int.reduceGE, Int.reduceEq, Int.reduceBEq, Int.reduceBNe, load_ptr, ldV_some, cellAt_cells, List.getElem?_cons_zero, List.getElem?_cons_succ, store_ptr, stO_some, setAt_0, setAt_1, setAt_2, setAt_3, setAt_4, setAt_5, setAt_6, setAt_7, setAt_8, setAt_9, setAt_10, setAt_11, setAt_12, cells_int, cells_bool, cells_str, cells_nils, cells_nilp, cells_ptr, cells_sl, cells_u8, cells_u16, cells_agg, get_upd_is, Option.isSome_some, upd_upd, ev1_nchkV, ev1_faV, nchkV_ptr, faV_ptr, ev1_extV, extV_tup, eqptr_nil, eqptr_ptr, Nat.zero_add, Nat.add_zero, qPL0, qPL1, qPL2, qPL3, qPL4, qPL5, beq_self_eq_true]
        exact ⟨_, rfl, rfl⟩
      · simp only [M38b0, E38, d0, w1, h68, fz, lx, x0, wa, hx, st, ok1, Bool.and_false, Bool.false_and, Bool.and_true, Bool.true_and, conv_int, ev1_ixpV, ev1_ixsV, ev1_extV, ev1_lensV', qES0, qES1, qES2, env0, List.length_cons, List.length_nil, Nat.reduceAdd, Nat.reduceSub, List.replicate, List.cons_append, List.nil_append, opd, Env.put, Env.at, List.set_cons_zero, List.set_cons_succ, List.getD_cons_zero, List.getD_cons_succ, freezeL, resVs, oneOr, Option.map_some, Option.map_none, List.map_cons, List.map_nil, if_true, if_false, Bool.not_true, Bool.not_false, Bool.false_eq_true, reduceIte, decide_true, decide_false, Int.reduceLT, Int.reduceLE, Int.reduceGT, Int.reduceGE, Int.reduceEq, Int.reduceBEq, Int.reduceBNe, load_ptr, ldV_some, cellAt_cells, List.getElem?_cons_zero, List.getElem?_cons_succ, store_ptr, stO_some, setAt_0, setAt_1, setAt_2, setAt_3, setAt_4, setAt_5, setAt_6, setAt_7, setAt_8, setAt_9, setAt_10, setAt_11, setAt_12, cells_int, cells_bool, cells_str, cells_nils, cells_nilp, cells_ptr, cells_sl, cells_u8, cells_u16, cells_agg, get_upd_is, Option.isSome_some, upd_upd, ev1_nchkV, ev1_faV, nchkV_ptr, faV_ptr, ev1_extV, extV_tup, eqptr_nil, eqptr_ptr, Nat.zero_add, Nat.add_zero, qPL0, qPL1, qPL2, qPL3, qPL4, qPL5, beq_self_eq_true]
        exact ⟨_, rfl, rfl⟩
theorem setOf_no {l : List Tp} {id : Int} (h : ok1 (findT id l) = false) : setOf l id = 0 := by
  unfold setOf
  match hf : findT id l, h with
  | none, _ => rfl
  | some [], _ => rfl
  | some (_ :: _ :: _), _ => rfl
  | some [b], h => cases h
theorem qget_val (s : List UInt8) : valR (evB 1000 38 [.str s] St.nil) = some (getOV (getO s)) := by
  rw [show (1000 : Nat) = 999 + 1 from rfl, evB_in rfl tab38, show St.nil = St.nil.pl [] from rfl]
  have h67 := b67 998 s
  obtain ⟨l, ok0, hl, hg, hR⟩ : ∃ (l : List Tp) (ok0 : Bool), l.length ≤ 100 ∧ getV (getL s) = .tup [tpV l, .bool ok0] ∧ getO s = if ok0 && decide (ofL l).may then some (ofL l) else none := by
    unfold getO
    cases h : getL s with
    | none => exact ⟨[], false, by simp, rfl, rfl⟩
    | some l =>
      refine ⟨l, true, getL_len h, rfl, ?_⟩
      by_cases hm : (ofL l).may <;> simp [hm]
  rw [hg] at h67
  have key : ∀ e, maskE M38b0l e = E38 (tpV l) ok0 0 → valR (outR M38.res (seqR (blockR 0 (iter (evC tabGl (evB 999) 999 M38b0) M38b0l 999 e (S38 [0, 0, 0, 0, 0]))) (evC tabGl (evB 999) 999 M38r0))) = some (getOV (getO s)) := by
    intro e he
    refine iter_leave (evC tabGl (evB 999) 999 M38b0) M38b0l (fun i e st => ∃ ok cs, maskE M38b0l e = E38 (tpV l) ok (i : Int) ∧ st = S38 cs ∧ cs.length = 5 ∧ (ok = true → ok0 = true ∧ ∀ j : Nat, j < i → cs.getD j 0 = setOf l ((j : Int) + 1)) ∧ (ok = false → ok0 = false ∨ ∃ j : Nat, j < 5 ∧ setOf l ((j : Int) + 1) = 0))
      (fun out => valR (outR M38.res (seqR (blockR 0 out) (evC tabGl (evB 999) 999 M38r0))) = some (getOV (getO s))) 5 ?_ ?_ 5 0 _ _ 999 (by omega) ⟨ok0, [0, 0, 0, 0, 0], he, rfl, rfl, fun h => ⟨h, fun j hj => by omega⟩, fun h => .inl h⟩ (by omega)
    · rintro i e st hi ⟨ok, cs, h1, rfl, h3, h4, h5⟩
      rw [h1]
      left
      obtain ⟨e', k1, k2⟩ := round38 l hl ok cs h3 i hi
      refine ⟨e', _, k1, _, _, k2, rfl, by split <;> simp [h3], fun h => ?_, fun h => ?_⟩
      · rw [if_pos h]
        simp only [Bool.and_eq_true] at h
        obtain ⟨q1, q2⟩ := h4 h.1
        refine ⟨q1, fun j hj => ?_⟩
        by_cases hji : j = i
        · subst hji
          rw [List.getD_eq_getElem?_getD, List.getElem?_set_self (by omega)]; rfl
        · rw [List.getD_eq_getElem?_getD, List.getElem?_set_ne (Ne.symm hji), ← List.getD_eq_getElem?_getD]
          exact q2 j (by omega)
      · cases hok : ok with
        | false => exact h5 hok
        | true =>
          rw [hok, Bool.true_and] at h
          exact .inr ⟨i, hi, setOf_no h⟩
    · rintro e st ⟨ok, cs, h1, rfl, h3, h4, h5⟩
      rw [h1]
      have d0 : decide (((5 : Nat) : Int) < 5) = false := rfl
      obtain ⟨c0, c1, c2, c3, c4, rfl⟩ : ∃ c0 c1 c2 c3 c4, cs = [c0, c1, c2, c3, c4] := by
        match cs, h3 with
        | [c0, c1, c2, c3, c4], _ => exact ⟨_, _, _, _, _, rfl⟩
      have y0 : ∀ b, ixpV 5 1 (.ptr b 0) (.int .i64 0) = some (.ptr b 0) := fun b => ixpV_at 5 b 0 (by omega)
      have y1 : ∀ b, ixpV 5 1 (.ptr b 0) (.int .i64 1) = some (.ptr b 1) := fun b => ixpV_at 5 b 1 (by omega)
      have y2 : ∀ b, ixpV 5 1 (.ptr b 0) (.int .i64 2) = some (.ptr b 2) := fun b => ixpV_at 5 b 2 (by omega)
      have y3 : ∀ b, ixpV 5 1 (.ptr b 0) (.int .i64 3) = some (.ptr b 3) := fun b => ixpV_at 5 b 3 (by omega)
      have y4 : ∀ b, ixpV 5 1 (.ptr b 0) (.int .i64 4) = some (.ptr b 4) := fun b => ixpV_at 5 b 4 (by omega)
      have h25 := b25 998 ⟨c0, c1, c2, c3, c4⟩
      simp only [Of5.cells, ofC] at h25
      refine ⟨?_, fun e' s' hh => ?_⟩
      · cases hok : ok with
        | false =>
          have hr : getO s = none := by
            rw [hR]
            rcases h5 hok with h | ⟨j, hj, h⟩
            · rw [h]; rfl
            · rw [decide_eq_false (not_may _ j hj ((ofL_sets l j hj).trans h)), Bool.and_false]; rfl
          rw [hr]
          simp only [M38, M38r0, M38b0, E38, S38, Z5, d0, y0, y1, y2, y3, y4, getOV, ofC, ev1_build, fill_nil, ev1_ixpV, qES0, qES1, qES2, env0, List.length_cons, List.length_nil, Nat.reduceAdd, Nat.reduceSub, List.replicate, List.cons_append, List.nil_append, opd, Env.put, Env.at, List.set_cons_zero, List.set_cons_succ, List.getD_cons_zero, List.getD_cons_succ, freezeL, resVs, oneOr, Option.map_some, Option.map_none, List.map_cons, List.map_nil, if_true, if_false, Bool.not_true, Bool.not_false, Bool.false_eq_true, reduceIte, decide_true, decide_false, Int.reduceLT, Int.reduceLE, Int.reduceGT, Int.reduceGE, Int.reduceEq, Int.reduceBEq, Int.reduceBNe, load_ptr, ldV_some, cellAt_cells, List.getElem?_cons_zero, List.getElem?_cons_succ, store_ptr, stO_some, setAt_0, setAt_1, setAt_2, setAt_3, setAt_4, setAt_5, setAt_6, setAt_7, setAt_8, setAt_9, setAt_10, setAt_11, setAt_12, cells_int, cells_bool, cells_str, cells_nils, cells_nilp, cells_ptr, cells_sl, cells_u8, cells_u16, cells_agg, get_upd_is, Option.isSome_some, upd_upd, ev1_nchkV, ev1_faV, nchkV_ptr, faV_ptr, ev1_extV, extV_tup, eqptr_nil, eqptr_ptr, Nat.zero_add, Nat.add_zero, qPL0, qPL1, qPL2, qPL3, qPL4, qPL5, beq_self_eq_true]
        | true =>
          obtain ⟨q1, q2⟩ := h4 hok
          have e0 : c0 = setOf l 1 := q2 0 (by omega)
          have e1 : c1 = setOf l 2 := q2 1 (by omega)
          have e2 : c2 = setOf l 3 := q2 2 (by omega)
          have e3 : c3 = setOf l 4 := q2 3 (by omega)
          have e4 : c4 = setOf l 5 := q2 4 (by omega)
          have ho : (⟨c0, c1, c2, c3, c4⟩ : Of5) = ofL l := by rw [e0, e1, e2, e3, e4]; rfl
          rw [q1, Bool.true_and, ← ho] at hR
          by_cases hm : Of5.may ⟨c0, c1, c2, c3, c4⟩
          · rw [decide_eq_true hm] at h25 hR
            rw [if_pos rfl] at hR
            rw [hR]
            simp only [M38, M38r0, M38b0, E38, S38, Z5, d0, y0, y1, y2, y3, y4, h25, getOV, Of5.cells, ofC, ev1_build, fill_nil, ev1_ixpV, qES0, qES1, qES2, env0, List.length_cons, List.length_nil, Nat.reduceAdd, Nat.reduceSub, List.replicate, List.cons_append, List.nil_append, opd, Env.put, Env.at, List.set_cons_zero, List.set_cons_succ, List.getD_cons_zero, List.getD_cons_succ, freezeL, resVs, oneOr, Option.map_some, Option.map_none, List.map_cons, List.map_nil, if_true, if_false, Bool.not_true, Bool.not_false, Bool.false_eq_true, reduceIte, decide_true, decide_false, Int.reduceLT, Int.reduceLE, Int.reduceGT, Int.reduceGE, Int.reduceEq, Int.reduceBEq, Int.reduceBNe, load_ptr, ldV_some, cellAt_cells, List.getElem?_cons_zero, List.getElem?_cons_succ, store_ptr, stO_some, setAt_0, setAt_1, setAt_2, setAt_3, setAt_4, setAt_5, setAt_6, setAt_7, setAt_8, setAt_9, setAt_10, setAt_11, setAt_12, cells_int, cells_bool, cells_str, cells_nils, cells_nilp, cells_ptr, cells_sl, cells_u8, cells_u16, cells_agg, get_upd_is, Option.isSome_some, upd_upd, ev1_nchkV, ev1_faV, nchkV_ptr, faV_ptr, ev1_extV, extV_tup, eqptr_nil, eqptr_ptr, Nat.zero_add, Nat.add_zero, qPL0, qPL1, qPL2, qPL3, qPL4, qPL5, beq_self_eq_true]
          · rw [decide_eq_false hm] at h25 hR
            rw [if_neg (by decide)] at hR
            rw [hR]
            simp only [M38, M38r0, M38b0, E38, S38, Z5, d0, y0, y1, y2, y3, y4, h25, getOV, Of5.cells, ofC, ev1_build, fill_nil, ev1_ixpV, qES0, qES1, qES2, env0, List.length_cons, List.length_nil, Nat.reduceAdd, Nat.reduceSub, List.replicate, List.cons_append, List.nil_append, opd, Env.put, Env.at, List.set_cons_zero, List.set_cons_succ, List.getD_cons_zero, List.getD_cons_succ, freezeL, resVs, oneOr, Option.map_some, Option.map_none, List.map_cons, List.map_nil, if_true, if_false, Bool.not_true, Bool.not_false, Bool.false_eq_true, reduceIte, decide_true, decide_false, Int.reduceLT, Int.reduceLE, Int.reduceGT, Int.reduceGE, Int.reduceEq, Int.reduceBEq, Int.reduceBNe, load_ptr, ldV_some, cellAt_cells, List.getElem?_cons_zero, List.getElem?_cons_succ, store_ptr, stO_some, setAt_0, setAt_1, setAt_2, setAt_3, setAt_4, setAt_5, setAt_6, setAt_7, setAt_8, setAt_9, setAt_10, setAt_11, setAt_12, cells_int, cells_bool, cells_str, cells_nils, cells_nilp, cells_ptr, cells_sl, cells_u8, cells_u16, cells_agg, get_upd_is, Option.isSome_some, upd_upd, ev1_nchkV, ev1_faV, nchkV_ptr, faV_ptr, ev1_extV, extV_tup, eqptr_nil, eqptr_ptr, Nat.zero_add, Nat.add_zero, qPL0, qPL1, qPL2, qPL3, qPL4, qPL5, beq_self_eq_true]
      · simp only [M38b0, E38, d0, qES0, qES1, qES2, env0, List.length_cons, List.length_nil, Nat.reduceAdd, Nat.reduceSub, List.replicate, List.cons_append, List.nil_append, opd, Env.put, Env.at, List.set_cons_zero, List.set_cons_succ, List.getD_cons_zero, List.getD_cons_succ, freezeL, resVs, oneOr, Option.map_some, Option.map_none, List.map_cons, List.map_nil, if_true, if_false, Bool.not_true, Bool.not_false, Bool.false_eq_true, reduceIte, decide_true, decide_false, Int.reduceLT, Int.reduceLE, Int.reduceGT, Int.reduceGE, Int.reduceEq, Int.reduceBEq, Int.reduceBNe, load_ptr, ldV_some, cellAt_cells, List.getElem?_cons_zero, List.getElem?_cons_succ, store_ptr, stO_some, setAt_0, setAt_1, setAt_2, setAt_3, setAt_4, setAt_5, setAt_6, setAt_7, setAt_8, setAt_9, setAt_10, setAt_11, setAt_12, cells_int, cells_bool, cells_str, cells_nils, cells_nilp, cells_ptr, cells_sl, cells_u8, cells_u16, cells_agg, get_upd_is, Option.isSome_some, upd_upd, ev1_nchkV, ev1_faV, nchkV_ptr, faV_ptr, ev1_extV, extV_tup, eqptr_nil, eqptr_ptr, Nat.zero_add, Nat.add_zero, qPL0, qPL1, qPL2, qPL3, qPL4, qPL5, beq_self_eq_true] at hh
        cases hh
  simp only [M38, h67, evC_loop, ev1_extV, qES0, qES1, qES2, env0, List.length_cons, List.length_nil, Nat.reduceAdd, Nat.reduceSub, List.replicate, List.cons_append, List.nil_append, opd, Env.put, Env.at, List.set_cons_zero, List.set_cons_succ, List.getD_cons_zero, List.getD_cons_succ, freezeL, resVs, oneOr, Option.map_some, Option.map_none, List.map_cons, List.map_nil, if_true, if_false, Bool.not_true, Bool.not_false, Bool.false_eq_true, reduceIte, decide_true, decide_false, Int.reduceLT, Int.reduceLE, Int.reduceGT, Int.reduceGE, Int.reduceEq, Int.reduceBEq, Int.reduceBNe, load_ptr, ldV_some, cellAt_cells, List.getElem?_cons_zero, List.getElem?_cons_succ, store_ptr, stO_some, setAt_0, setAt_1, setAt_2, setAt_3, setAt_4, setAt_5, setAt_6, setAt_7, setAt_8, setAt_9, setAt_10, setAt_11, setAt_12, cells_int, cells_bool, cells_str, cells_nils, cells_nilp, cells_ptr, cells_sl, cells_u8, cells_u16, cells_agg, get_upd_is, Option.isSome_some, upd_upd, ev1_nchkV, ev1_faV, nchkV_ptr, faV_ptr, ev1_extV, extV_tup, eqptr_nil, eqptr_ptr, Nat.zero_add, Nat.add_zero, qPL0, qPL1, qPL2, qPL3, qPL4, qPL5, beq_self_eq_true]
  exact key _ rfl
end Go.Proofs.YtbeimfhodgmjhaaDoor
/- The document's GetOffer, as the evaluator answers it. No conditions. -/
set_option linter.unusedSimpArgs false
set_option linter.unusedVariables false
set_option maxRecDepth 100000
set_option maxHeartbeats 4000000
namespace Go.Proofs.YtbeimfhodgmjhaaDoor
open Go Go.Ab
def E39 (ts : AV) (id i : Int) : Env := [.undef, .undef, .ptr St.nil.next 0, .undef, ts, .undef, .ptr (St.nil.next + 1) 0, .int .i64 id, .int .i64 i, .undef, .undef, .undef, .undef, .undef, .undef, .undef, .undef, .undef, .undef, .undef, .undef, .undef, .undef, .undef, .undef, .undef, .undef, .undef, .undef, .undef, .undef, .undef, .undef, .undef, .undef, .undef, .undef, .undef, .undef, .undef, .undef, .undef, .undef, .undef, .undef, .undef, .undef, .undef, .undef, .undef, .undef, .undef, .undef, .undef, .undef, .undef, .undef, .undef, .undef, .undef, .undef, .undef, .undef, .undef, .undef, .undef, .undef]
def E39o (ts : AV) (id : Int) : Env := [.undef, .undef, .ptr St.nil.next 0, .undef, ts, .undef, .ptr (St.nil.next + 1) 0, .int .i64 id, .undef, .undef, .undef, .undef, .undef, .undef, .undef, .undef, .undef, .undef, .undef, .undef, .undef, .undef, .undef, .undef, .undef, .undef, .undef, .undef, .undef, .undef, .undef, .undef, .undef, .undef, .undef, .undef, .undef, .undef, .undef, .undef, .undef, .undef, .undef, .undef, .undef, .undef, .undef, .undef, .undef, .undef, .undef, .undef, .undef, .undef, .undef, .undef, .undef, .undef, .undef, .undef, .undef, .undef, .undef, .undef, .undef, .undef, .undef]
def S39 (cs : List Int) : St := S38 cs
/-- The inner loop: the first parameter of a number. -/
theorem inner39 (l : List Tp) (hl : l.length ≤ 100) (cs : List Int) (hc : cs.length = 6) (d : Nat) (hd : d < 6) (h0 : cs.getD d 0 = 0) :
    ∀ e, maskE M39b0l e = E39 (tpV l) d 0 → ∃ e', seqR (blockR 1 (blockR 2 (iter (evC tabGl (evB 999) 999 M39b0) M39b0l 999 e (S38 cs)))) (evC tabGl (evB 999) 999 M39r0) = some (.nrm, e', S38 (cs.set d (setOf l d))) ∧ maskE M39b1l e' = E39o (tpV l) ((d + 1 : Nat) : Int) := by
  have wd : IntKind.i64.wrap ((d : Int) + 1) = ((d + 1 : Nat) : Int) := (wrapI _ (by omega) (by omega)).trans (by omega)
  intro e he
  have hI := tpV_is l
  have ln := hI.len
  refine iter_leave (evC tabGl (evB 999) 999 M39b0) M39b0l (fun i e st => maskE M39b0l e = E39 (tpV l) d (i : Int) ∧ st = S38 cs ∧ ∀ j (hj : j < l.length), j < i → l[j].1 ≠ (d : Int))
    (fun out => ∃ e', seqR (blockR 1 (blockR 2 out)) (evC tabGl (evB 999) 999 M39r0) = some (.nrm, e', S38 (cs.set d (setOf l d))) ∧ maskE M39b1l e' = E39o (tpV l) ((d + 1 : Nat) : Int)) l.length ?_ ?_ l.length 0 _ _ 999 (by omega) ⟨he, rfl, fun j _ hj => by omega⟩ (by omega)
  · rintro i e st hi ⟨h1, rfl, h4⟩
    rw [h1]
    obtain ⟨r, hr⟩ := hI.ixa i hi
    have hs := findT_skip d l i h4
    rw [List.drop_eq_getElem_cons hi] at hs
    have hne : ∀ (hx : l[i].1 ≠ (d : Int)) j (hj : j < l.length), j < i + 1 → l[j].1 ≠ (d : Int) := by
      intro hx j hj hji
      by_cases hji' : j < i
      · exact h4 j hj hji'
      · have : j = i := by omega
        subst this; exact hx
    obtain ⟨⟨a, val⟩, hx⟩ : ∃ t, l[i] = t := ⟨_, rfl⟩
    rw [hx] at hr hs hne
    have d0 : decide ((i : Int) < (l.length : Nat)) = true := decide_eq_true (by omega)
    have w1 : IntKind.i64.wrap ((i : Int) + 1) = ((i + 1 : Nat) : Int) := (wrapI _ (by omega) (by omega)).trans (by omega)
    have c0 : Ab.cut (.int .i64 a :: .str val :: r) 0 none = some (.int .i64 a) := by simp [Ab.cut]
    have c1 : Ab.cut (.str val :: r) 0 none = some (.str val) := by simp [Ab.cut]
    have f0 : faV 0 (.rp (.int .i64 a :: .str val :: r)) = some (.rp (.int .i64 a :: .str val :: r)) := faV_rp _ _ (by simp)
    have f1 : faV 1 (.rp (.int .i64 a :: .str val :: r)) = some (.rp (.str val :: r)) := faV_rp _ _ (by simp)
    by_cases g : a = (d : Int)
    · right
      have q : (a != (d : Int)) = false := by simp [g]
      have hf : findT d l = some val := by
        rw [hs]; show (if a = (d : Int) then some val else _) = _; rw [if_pos g]
      match val, hf, hr, c0, c1, f0, f1 with
      | [], hf, hr, c0, c1, f0, f1 =>
        have hso : setOf l d = 0 := by unfold setOf; rw [hf]
        have hcs : cs.set d 0 = cs := by
          refine List.ext_getElem? fun j => ?_
          by_cases hj : j = d
          · subst hj
            rw [List.getElem?_set_self (by omega), List.getElem?_eq_getElem (by omega)]
            rw [List.getD_eq_getElem?_getD, List.getElem?_eq_getElem (by omega)] at h0
            exact congrArg some h0.symm
          · rw [List.getElem?_set_ne (Ne.symm hj)]
        rw [hso, hcs]
        have lx : lensV' (.str []) = some (.int .i64 0) := rfl
        refine ⟨?_, fun e' s' hh => ?_⟩
        · simp only [M39b0, M39r0, wd, E39, ln, hr, c0, c1, f0, f1, d0, q, w1, lx, loadR_rp, ev1_lensV', qES0, qES1, qES2, env0, List.length_cons, List.length_nil, Nat.reduceAdd, Nat.reduceSub, List.replicate, List.cons_append, List.nil_append, opd, Env.put, Env.at, List.set_cons_zero, List.set_cons_succ, List.getD_cons_zero, List.getD_cons_succ, freezeL, resVs, oneOr, Option.map_some, Option.map_none, List.map_cons, List.map_nil, if_true, if_false, Bool.not_true, Bool.not_false, Bool.false_eq_true, reduceIte, decide_true, decide_false, Int.reduceLT, Int.reduceLE, Int.reduceGT, Int.reduceGE, Int.reduceEq, Int.reduceBEq, Int.reduceBNe, load_ptr, ldV_some, cellAt_cells, List.getElem?_cons_zero, List.getElem?_cons_succ, store_ptr, stO_some, setAt_0, setAt_1, setAt_2, setAt_3, setAt_4, setAt_5, setAt_6, setAt_7, setAt_8, setAt_9, setAt_10, setAt_11, setAt_12, cells_int, cells_bool, cells_str, cells_nils, cells_nilp, cells_ptr, cells_sl, cells_u8, cells_u16, cells_agg, get_upd_is, Option.isSome_some, upd_upd, ev1_nchkV, ev1_faV, nchkV_ptr, faV_ptr, ev1_extV, extV_tup, eqptr_nil, eqptr_ptr, Nat.zero_add, Nat.add_zero, qPL0, qPL1, qPL2, qPL3, qPL4, qPL5, beq_self_eq_true]
          exact ⟨_, rfl, rfl⟩
        · simp only [M39b0, M39r0, wd, E39, ln, hr, c0, c1, f0, f1, d0, q, w1, lx, loadR_rp, ev1_lensV', qES0, qES1, qES2, env0, List.length_cons, List.length_nil, Nat.reduceAdd, Nat.reduceSub, List.replicate, List.cons_append, List.nil_append, opd, Env.put, Env.at, List.set_cons_zero, List.set_cons_succ, List.getD_cons_zero, List.getD_cons_succ, freezeL, resVs, oneOr, Option.map_some, Option.map_none, List.map_cons, List.map_nil, if_true, if_false, Bool.not_true, Bool.not_false, Bool.false_eq_true, reduceIte, decide_true, decide_false, Int.reduceLT, Int.reduceLE, Int.reduceGT, Int.reduceGE, Int.reduceEq, Int.reduceBEq, Int.reduceBNe, load_ptr, ldV_some, cellAt_cells, List.getElem?_cons_zero, List.getElem?_cons_succ, store_ptr, stO_some, setAt_0, setAt_1, setAt_2, setAt_3, setAt_4, setAt_5, setAt_6, setAt_7, setAt_8, setAt_9, setAt_10, setAt_11, setAt_12, cells_int, cells_bool, cells_str, cells_nils, cells_nilp, cells_ptr, cells_sl, cells_u8, cells_u16, cells_agg, get_upd_is, Option.isSome_some, upd_upd, ev1_nchkV, ev1_faV, nchkV_ptr, faV_ptr, ev1_extV, extV_tup, eqptr_nil, eqptr_ptr, Nat.zero_add, Nat.add_zero, qPL0, qPL1, qPL2, qPL3, qPL4, qPL5, beq_self_eq_true] at hh
          cases hh
      | b :: c :: y, hf, hr, c0, c1, f0, f1 =>
        have hso : setOf l d = 0 := by unfold setOf; rw [hf]
        have hcs : cs.set d 0 = cs := by
          refine List.ext_getElem? fun j => ?_
          by_cases hj : j = d
          · subst hj
            rw [List.getElem?_set_self (by omega), List.getElem?_eq_getElem (by omega)]
            rw [List.getD_eq_getElem?_getD, List.getElem?_eq_getElem (by omega)] at h0
            exact congrArg some h0.symm
          · rw [List.getElem?_set_ne (Ne.symm hj)]
        rw [hso, hcs]
        have lx : lensV' (.str (b :: c :: y)) = some (.int .i64 ((y.length + 2 : Nat) : Int)) := rfl
        have q2 : (((y.length + 2 : Nat) : Int) == 1) = false := by simp; omega
        refine ⟨?_, fun e' s' hh => ?_⟩
        · simp only [M39b0, M39r0, wd, E39, ln, hr, c0, c1, f0, f1, d0, q, q2, w1, lx, loadR_rp, ev1_lensV', qES0, qES1, qES2, env0, List.length_cons, List.length_nil, Nat.reduceAdd, Nat.reduceSub, List.replicate, List.cons_append, List.nil_append, opd, Env.put, Env.at, List.set_cons_zero, List.set_cons_succ, List.getD_cons_zero, List.getD_cons_succ, freezeL, resVs, oneOr, Option.map_some, Option.map_none, List.map_cons, List.map_nil, if_true, if_false, Bool.not_true, Bool.not_false, Bool.false_eq_true, reduceIte, decide_true, decide_false, Int.reduceLT, Int.reduceLE, Int.reduceGT, Int.reduceGE, Int.reduceEq, Int.reduceBEq, Int.reduceBNe, load_ptr, ldV_some, cellAt_cells, List.getElem?_cons_zero, List.getElem?_cons_succ, store_ptr, stO_some, setAt_0, setAt_1, setAt_2, setAt_3, setAt_4, setAt_5, setAt_6, setAt_7, setAt_8, setAt_9, setAt_10, setAt_11, setAt_12, cells_int, cells_bool, cells_str, cells_nils, cells_nilp, cells_ptr, cells_sl, cells_u8, cells_u16, cells_agg, get_upd_is, Option.isSome_some, upd_upd, ev1_nchkV, ev1_faV, nchkV_ptr, faV_ptr, ev1_extV, extV_tup, eqptr_nil, eqptr_ptr, Nat.zero_add, Nat.add_zero, qPL0, qPL1, qPL2, qPL3, qPL4, qPL5, beq_self_eq_true]
          exact ⟨_, rfl, rfl⟩
        · simp only [M39b0, M39r0, wd, E39, ln, hr, c0, c1, f0, f1, d0, q, q2, w1, lx, loadR_rp, ev1_lensV', qES0, qES1, qES2, env0, List.length_cons, List.length_nil, Nat.reduceAdd, Nat.reduceSub, List.replicate, List.cons_append, List.nil_append, opd, Env.put, Env.at, List.set_cons_zero, List.set_cons_succ, List.getD_cons_zero, List.getD_cons_succ, freezeL, resVs, oneOr, Option.map_some, Option.map_none, List.map_cons, List.map_nil, if_true, if_false, Bool.not_true, Bool.not_false, Bool.false_eq_true, reduceIte, decide_true, decide_false, Int.reduceLT, Int.reduceLE, Int.reduceGT, Int.reduceGE, Int.reduceEq, Int.reduceBEq, Int.reduceBNe, load_ptr, ldV_some, cellAt_cells, List.getElem?_cons_zero, List.getElem?_cons_succ, store_ptr, stO_some, setAt_0, setAt_1, setAt_2, setAt_3, setAt_4, setAt_5, setAt_6, setAt_7, setAt_8, setAt_9, setAt_10, setAt_11, setAt_12, cells_int, cells_bool, cells_str, cells_nils, cells_nilp, cells_ptr, cells_sl, cells_u8, cells_u16, cells_agg, get_upd_is, Option.isSome_some, upd_upd, ev1_nchkV, ev1_faV, nchkV_ptr, faV_ptr, ev1_extV, extV_tup, eqptr_nil, eqptr_ptr, Nat.zero_add, Nat.add_zero, qPL0, qPL1, qPL2, qPL3, qPL4, qPL5, beq_self_eq_true] at hh
          cases hh
      | [b], hf, hr, c0, c1, f0, f1 =>
        have hso : setOf l d = (b.toNat : Int) := by unfold setOf; rw [hf]
        rw [hso]
        have lx : lensV' (.str [b]) = some (.int .i64 1) := rfl
        have x0 : ixsV (.str [b]) (.int .i64 0) = some (.int .u8 (b.toNat : Int)) := ixsV_at [b] 0 (by simp)
        have wa : IntKind.i64.wrap (b.toNat : Int) = (b.toNat : Int) := wrapI _ (by omega) (by have := b.toNat_lt; omega)
        have hx := ixpV_at 6 (St.nil.next + 1) d hd
        have st := store38 cs d (by omega) (b.toNat : Int)
        refine ⟨?_, fun e' s' hh => ?_⟩
        · simp only [M39b0, M39r0, wd, E39, ln, hr, c0, c1, f0, f1, d0, q, w1, lx, x0, wa, hx, st, conv_int, loadR_rp, ev1_ixpV, ev1_ixsV, ev1_lensV', qES0, qES1, qES2, env0, List.length_cons, List.length_nil, Nat.reduceAdd, Nat.reduceSub, List.replicate, List.cons_append, List.nil_append, opd, Env.put, Env.at, List.set_cons_zero, List.set_cons_succ, List.getD_cons_zero, List.getD_cons_succ, freezeL, resVs, oneOr, Option.map_some, Option.map_none, List.map_cons, List.map_nil, if_true, if_false, Bool.not_true, Bool.not_false, Bool.false_eq_true, reduceIte, decide_true, decide_false, Int.reduceLT, Int.reduceLE, Int.reduceGT, Int.reduceGE, Int.reduceEq, Int.reduceBEq, Int.reduceBNe, load_ptr, ldV_some, cellAt_cells, List.getElem?_cons_zero, List.getElem?_cons_succ, store_ptr, stO_some, setAt_0, setAt_1, setAt_2, setAt_3, setAt_4, setAt_5, setAt_6, setAt_7, setAt_8, setAt_9, setAt_10, setAt_11, setAt_12, cells_int, cells_bool, cells_str, cells_nils, cells_nilp, cells_ptr, cells_sl, cells_u8, cells_u16, cells_agg, get_upd_is, Option.isSome_some, upd_upd, ev1_nchkV, ev1_faV, nchkV_ptr, faV_ptr, ev1_extV, extV_tup, eqptr_nil, eqptr_ptr, Nat.zero_add, Nat.add_zero, qPL0, qPL1, qPL2, qPL3, qPL4, qPL5, beq_self_eq_true]
          exact ⟨_, rfl, rfl⟩
        · simp only [M39b0, M39r0, wd, E39, ln, hr, c0, c1, f0, f1, d0, q, w1, lx, x0, wa, hx, st, conv_int, loadR_rp, ev1_ixpV, ev1_ixsV, ev1_lensV', qES0, qES1, qES2, env0, List.length_cons, List.length_nil, Nat.reduceAdd, Nat.reduceSub, List.replicate, List.cons_append, List.nil_append, opd, Env.put, Env.at, List.set_cons_zero, List.set_cons_succ, List.getD_cons_zero, List.getD_cons_succ, freezeL, resVs, oneOr, Option.map_some, Option.map_none, List.map_cons, List.map_nil, if_true, if_false, Bool.not_true, Bool.not_false, Bool.false_eq_true, reduceIte, decide_true, decide_false, Int.reduceLT, Int.reduceLE, Int.reduceGT, Int.reduceGE, Int.reduceEq, Int.reduceBEq, Int.reduceBNe, load_ptr, ldV_some, cellAt_cells, List.getElem?_cons_zero, List.getElem?_cons_succ, store_ptr, stO_some, setAt_0, setAt_1, setAt_2, setAt_3, setAt_4, setAt_5, setAt_6, setAt_7, setAt_8, setAt_9, setAt_10, setAt_11, setAt_12, cells_int, cells_bool, cells_str, cells_nils, cells_nilp, cells_ptr, cells_sl, cells_u8, cells_u16, cells_agg, get_upd_is, Option.isSome_some, upd_upd, ev1_nchkV, ev1_faV, nchkV_ptr, faV_ptr, ev1_extV, extV_tup, eqptr_nil, eqptr_ptr, Nat.zero_add, Nat.add_zero, qPL0, qPL1, qPL2, qPL3, qPL4, qPL5, beq_self_eq_true] at hh
          cases hh
    · left
      have q : (a != (d : Int)) = true := by simp [g]
      simp only [M39b0, M39r0, wd, E39, ln, hr, c0, c1, f0, f1, d0, q, w1, loadR_rp, qES0, qES1, qES2, env0, List.length_cons, List.length_nil, Nat.reduceAdd, Nat.reduceSub, List.replicate, List.cons_append, List.nil_append, opd, Env.put, Env.at, List.set_cons_zero, List.set_cons_succ, List.getD_cons_zero, List.getD_cons_succ, freezeL, resVs, oneOr, Option.map_some, Option.map_none, List.map_cons, List.map_nil, if_true, if_false, Bool.not_true, Bool.not_false, Bool.false_eq_true, reduceIte, decide_true, decide_false, Int.reduceLT, Int.reduceLE, Int.reduceGT, Int.reduceGE, Int.reduceEq, Int.reduceBEq, Int.reduceBNe, load_ptr, ldV_some, cellAt_cells, List.getElem?_cons_zero, List.getElem?_cons_succ, store_ptr, stO_some, setAt_0, setAt_1, setAt_2, setAt_3, setAt_4, setAt_5, setAt_6, setAt_7, setAt_8, setAt_9, setAt_10, setAt_11, setAt_12, cells_int, cells_bool, cells_str, cells_nils, cells_nilp, cells_ptr, cells_sl, cells_u8, cells_u16, cells_agg, get_upd_is, Option.isSome_some, upd_upd, ev1_nchkV, ev1_faV, nchkV_ptr, faV_ptr, ev1_extV, extV_tup, eqptr_nil, eqptr_ptr, Nat.zero_add, Nat.add_zero, qPL0, qPL1, qPL2, qPL3, qPL4, qPL5, beq_self_eq_true]
      exact ⟨_, _, rfl, rfl, rfl, hne g⟩
  · rintro e st ⟨h1, rfl, h4⟩
    rw [h1]
    have hs := findT_skip d l l.length (fun j hj _ => h4 j hj hj)
    rw [List.drop_length] at hs
    have hso : setOf l d = 0 := by unfold setOf; rw [hs]; rfl
    have hcs : cs.set d 0 = cs := by
      refine List.ext_getElem? fun j => ?_
      by_cases hj : j = d
      · subst hj
        rw [List.getElem?_set_self (by omega), List.getElem?_eq_getElem (by omega)]
        rw [List.getD_eq_getElem?_getD, List.getElem?_eq_getElem (by omega)] at h0
        exact congrArg some h0.symm
      · rw [List.getElem?_set_ne (Ne.symm hj)]
    rw [hso, hcs]
    have d0 : decide (((l.length : Nat) : Int) < ((l.length : Nat) : Int)) = false := decide_eq_false (by omega)
    refine ⟨?_, fun e' s' hh => ?_⟩
    · simp only [M39b0, M39r0, wd, E39, ln, d0, qES0, qES1, qES2, env0, List.length_cons, List.length_nil, Nat.reduceAdd, Nat.reduceSub, List.replicate, List.cons_append, List.nil_append, opd, Env.put, Env.at, List.set_cons_zero, List.set_cons_succ, List.getD_cons_zero, List.getD_cons_succ, freezeL, resVs, oneOr, Option.map_some, Option.map_none, List.map_cons, List.map_nil, if_true, if_false, Bool.not_true, Bool.not_false, Bool.false_eq_true, reduceIte, decide_true, decide_false, Int.reduceLT, Int.reduceLE, Int.reduceGT, Int.reduceGE, Int.reduceEq, Int.reduceBEq, Int.reduceBNe, load_ptr, ldV_some, cellAt_cells, List.getElem?_cons_zero, List.getElem?_cons_succ, store_ptr, stO_some, setAt_0, setAt_1, setAt_2, setAt_3, setAt_4, setAt_5, setAt_6, setAt_7, setAt_8, setAt_9, setAt_10, setAt_11, setAt_12, cells_int, cells_bool, cells_str, cells_nils, cells_nilp, cells_ptr, cells_sl, cells_u8, cells_u16, cells_agg, get_upd_is, Option.isSome_some, upd_upd, ev1_nchkV, ev1_faV, nchkV_ptr, faV_ptr, ev1_extV, extV_tup, eqptr_nil, eqptr_ptr, Nat.zero_add, Nat.add_zero, qPL0, qPL1, qPL2, qPL3, qPL4, qPL5, beq_self_eq_true]
      exact ⟨_, rfl, rfl⟩
    · simp only [M39b0, M39r0, wd, E39, ln, d0, qES0, qES1, qES2, env0, List.length_cons, List.length_nil, Nat.reduceAdd, Nat.reduceSub, List.replicate, List.cons_append, List.nil_append, opd, Env.put, Env.at, List.set_cons_zero, List.set_cons_succ, List.getD_cons_zero, List.getD_cons_succ, freezeL, resVs, oneOr, Option.map_some, Option.map_none, List.map_cons, List.map_nil, if_true, if_false, Bool.not_true, Bool.not_false, Bool.false_eq_true, reduceIte, decide_true, decide_false, Int.reduceLT, Int.reduceLE, Int.reduceGT, Int.reduceGE, Int.reduceEq, Int.reduceBEq, Int.reduceBNe, load_ptr, ldV_some, cellAt_cells, List.getElem?_cons_zero, List.getElem?_cons_succ, store_ptr, stO_some, setAt_0, setAt_1, setAt_2, setAt_3, setAt_4, setAt_5, setAt_6, setAt_7, setAt_8, setAt_9, setAt_10, setAt_11, setAt_12, cells_int, cells_bool, cells_str, cells_nils, cells_nilp, cells_ptr, cells_sl, cells_u8, cells_u16, cells_agg, get_upd_is, Option.isSome_some, upd_upd, ev1_nchkV, ev1_faV, nchkV_ptr, faV_ptr, ev1_extV, extV_tup, eqptr_nil, eqptr_ptr, Nat.zero_add, Nat.add_zero, qPL0, qPL1, qPL2, qPL3, qPL4, qPL5, beq_self_eq_true] at hh
      cases hh
theorem set_len (cs : List Int) (i : Nat) (x : Int) : (cs.set i x).length = cs.length := by simp
theorem rqget_val (s : List UInt8) : valR (evB 1000 39 [.str s] St.nil) = some (getOV (getO s)) := by
  rw [show (1000 : Nat) = 999 + 1 from rfl, evB_in rfl tab39, show St.nil = St.nil.pl [] from rfl]
  have h40 := b40 998 s
  cases hg : getL s with
  | none =>
    rw [hg] at h40
    simp only [getV] at h40
    have hR : getO s = none := by unfold getO; rw [hg]
    rw [hR]
    simp only [M39, h40, getOV, ofC, ev1_build, fill_nil, ev1_extV, qES0, qES1, qES2, env0, List.length_cons, List.length_nil, Nat.reduceAdd, Nat.reduceSub, List.replicate, List.cons_append, List.nil_append, opd, Env.put, Env.at, List.set_cons_zero, List.set_cons_succ, List.getD_cons_zero, List.getD_cons_succ, freezeL, resVs, oneOr, Option.map_some, Option.map_none, List.map_cons, List.map_nil, if_true, if_false, Bool.not_true, Bool.not_false, Bool.false_eq_true, reduceIte, decide_true, decide_false, Int.reduceLT, Int.reduceLE, Int.reduceGT, Int.reduceGE, Int.reduceEq, Int.reduceBEq, Int.reduceBNe, load_ptr, ldV_some, cellAt_cells, List.getElem?_cons_zero, List.getElem?_cons_succ, store_ptr, stO_some, setAt_0, setAt_1, setAt_2, setAt_3, setAt_4, setAt_5, setAt_6, setAt_7, setAt_8, setAt_9, setAt_10, setAt_11, setAt_12, cells_int, cells_bool, cells_str, cells_nils, cells_nilp, cells_ptr, cells_sl, cells_u8, cells_u16, cells_agg, get_upd_is, Option.isSome_some, upd_upd, ev1_nchkV, ev1_faV, nchkV_ptr, faV_ptr, ev1_extV, extV_tup, eqptr_nil, eqptr_ptr, Nat.zero_add, Nat.add_zero, qPL0, qPL1, qPL2, qPL3, qPL4, qPL5, beq_self_eq_true]
  | some l =>
    rw [hg] at h40
    simp only [getV] at h40
    have hl := getL_len hg
    have hR : getO s = if (ofL l).may then some (ofL l) else none := by unfold getO; rw [hg]
    have key : ∀ e, maskE M39b1l e = E39o (tpV l) 1 → valR (outR M39.res (seqR (blockR 0 (iter (evC tabGl (evB 999) 999 M39b1) M39b1l 999 e (S38 [0, 0, 0, 0, 0, 0]))) (evC tabGl (evB 999) 999 M39r1))) = some (getOV (getO s)) := by
      intro e he
      refine iter_leave (evC tabGl (evB 999) 999 M39b1) M39b1l (fun i e st => ∃ cs, maskE M39b1l e = E39o (tpV l) ((i + 1 : Nat) : Int) ∧ st = S38 cs ∧ cs.length = 6 ∧ (∀ j : Nat, j ≤ i → 1 ≤ j → cs.getD j 0 = setOf l j) ∧ (∀ j : Nat, i < j → j < 6 → cs.getD j 0 = 0))
        (fun out => valR (outR M39.res (seqR (blockR 0 out) (evC tabGl (evB 999) 999 M39r1))) = some (getOV (getO s))) 5 ?_ ?_ 5 0 _ _ 999 (by omega) ⟨[0, 0, 0, 0, 0, 0], he, rfl, rfl, fun j h1 h2 => by omega, fun j h1 h2 => by
          match j, h1, h2 with
          | 1, _, _ => rfl
          | 2, _, _ => rfl
          | 3, _, _ => rfl
          | 4, _, _ => rfl
          | 5, _, _ => rfl⟩ (by omega)
      · rintro i e st hi ⟨cs, h1, rfl, h3, h4, h5⟩
        rw [h1]
        left
        have d0 : decide (((i + 1 : Nat) : Int) ≤ 5) = true := decide_eq_true (by omega)
        have w1 : IntKind.i64.wrap (((i + 1 : Nat) : Int) + 1) = ((i + 1 + 1 : Nat) : Int) := (wrapI _ (by omega) (by omega)).trans (by omega)
        have hin := inner39 l hl cs h3 (i + 1) (by omega) (h5 (i + 1) (by omega) (by omega))
        have hset : ∀ j : Nat, j ≠ i + 1 → (cs.set (i + 1) (setOf l ((i + 1 : Nat) : Int))).getD j 0 = cs.getD j 0 := fun j hj => by
          rw [List.getD_eq_getElem?_getD, List.getElem?_set_ne (Ne.symm hj), ← List.getD_eq_getElem?_getD]
        have step : ∃ e', evC tabGl (evB 999) 999 M39b1 (E39o (tpV l) ((i + 1 : Nat) : Int)) (S38 cs) = some (.nrm, e', S38 (cs.set (i + 1) (setOf l ((i + 1 : Nat) : Int)))) ∧ maskE M39b1l e' = E39o (tpV l) ((i + 1 + 1 : Nat) : Int) := by
          simp only [M39b1, E39o, d0, evC_loop, qES0, qES1, qES2, env0, List.length_cons, List.length_nil, Nat.reduceAdd, Nat.reduceSub, List.replicate, List.cons_append, List.nil_append, opd, Env.put, Env.at, List.set_cons_zero, List.set_cons_succ, List.getD_cons_zero, List.getD_cons_succ, freezeL, resVs, oneOr, Option.map_some, Option.map_none, List.map_cons, List.map_nil, if_true, if_false, Bool.not_true, Bool.not_false, Bool.false_eq_true, reduceIte, decide_true, decide_false, Int.reduceLT, Int.reduceLE, Int.reduceGT, Int.reduceGE, Int.reduceEq, Int.reduceBEq, Int.reduceBNe, load_ptr, ldV_some, cellAt_cells, List.getElem?_cons_zero, List.getElem?_cons_succ, store_ptr, stO_some, setAt_0, setAt_1, setAt_2, setAt_3, setAt_4, setAt_5, setAt_6, setAt_7, setAt_8, setAt_9, setAt_10, setAt_11, setAt_12, cells_int, cells_bool, cells_str, cells_nils, cells_nilp, cells_ptr, cells_sl, cells_u8, cells_u16, cells_agg, get_upd_is, Option.isSome_some, upd_upd, ev1_nchkV, ev1_faV, nchkV_ptr, faV_ptr, ev1_extV, extV_tup, eqptr_nil, eqptr_ptr, Nat.zero_add, Nat.add_zero, qPL0, qPL1, qPL2, qPL3, qPL4, qPL5, beq_self_eq_true]
          obtain ⟨e1, g1, g2⟩ := hin (E39 (tpV l) ((i + 1 : Nat) : Int) 0) rfl
          have hit : ∀ e, maskE M39b0l e = E39 (tpV l) ((i + 1 : Nat) : Int) 0 → iter (evC tabGl (evB 999) 999 M39b0) M39b0l 999 e (S38 cs) = iter (evC tabGl (evB 999) 999 M39b0) M39b0l 999 (E39 (tpV l) ((i + 1 : Nat) : Int) 0) (S38 cs) := fun e he => iter_mask _ _ _ _ _ _ (he.trans rfl)
          rw [hit]
          rotate_left
          · rfl
          exact ⟨e1, g1, g2⟩
        obtain ⟨e', k1, k2⟩ := step
        refine ⟨e', _, k1, _, k2, rfl, by rw [set_len, h3], fun j q1 q2 => ?_, fun j q1 q2 => ?_⟩
        · by_cases hj : j = i + 1
          · subst hj
            rw [List.getD_eq_getElem?_getD, List.getElem?_set_self (by omega)]; rfl
          · rw [hset j hj]; exact h4 j (by omega) q2
        · rw [hset j (by omega)]; exact h5 j (by omega) q2
      · rintro e st ⟨cs, h1, rfl, h3, h4, h5⟩
        rw [h1]
        have d0 : decide (((5 + 1 : Nat) : Int) ≤ 5) = false := rfl
        obtain ⟨c0, c1, c2, c3, c4, c5, rfl⟩ : ∃ c0 c1 c2 c3 c4 c5, cs = [c0, c1, c2, c3, c4, c5] := by
          match cs, h3 with
          | [c0, c1, c2, c3, c4, c5], _ => exact ⟨_, _, _, _, _, _, rfl⟩
        have y1 : ∀ b, ixpV 6 1 (.ptr b 0) (.int .i64 1) = some (.ptr b 1) := fun b => ixpV_at 6 b 1 (by omega)
        have y2 : ∀ b, ixpV 6 1 (.ptr b 0) (.int .i64 2) = some (.ptr b 2) := fun b => ixpV_at 6 b 2 (by omega)
        have y3 : ∀ b, ixpV 6 1 (.ptr b 0) (.int .i64 3) = some (.ptr b 3) := fun b => ixpV_at 6 b 3 (by omega)
        have y4 : ∀ b, ixpV 6 1 (.ptr b 0) (.int .i64 4) = some (.ptr b 4) := fun b => ixpV_at 6 b 4 (by omega)
        have y5 : ∀ b, ixpV 6 1 (.ptr b 0) (.int .i64 5) = some (.ptr b 5) := fun b => ixpV_at 6 b 5 (by omega)
        have e0 : c1 = setOf l 1 := h4 1 (by omega) (by omega)
        have e1 : c2 = setOf l 2 := h4 2 (by omega) (by omega)
        have e2 : c3 = setOf l 3 := h4 3 (by omega) (by omega)
        have e3 : c4 = setOf l 4 := h4 4 (by omega) (by omega)
        have e4 : c5 = setOf l 5 := h4 5 (by omega) (by omega)
        have ho : (⟨c1, c2, c3, c4, c5⟩ : Of5) = ofL l := by rw [e0, e1, e2, e3, e4]; rfl
        have h58 := b58 998 ⟨c1, c2, c3, c4, c5⟩
        simp only [Of5.cells, ofC] at h58
        rw [← ho] at hR
        refine ⟨?_, fun e' s' hh => ?_⟩
        · by_cases hm : Of5.may ⟨c1, c2, c3, c4, c5⟩
          · rw [decide_eq_true hm] at h58
            rw [if_pos hm] at hR
            rw [hR]
            simp only [M39, M39r1, M39b1, E39o, S38, Z5, d0, y1, y2, y3, y4, y5, h58, getOV, Of5.cells, ofC, ev1_build, fill_nil, ev1_ixpV, qES0, qES1, qES2, env0, List.length_cons, List.length_nil, Nat.reduceAdd, Nat.reduceSub, List.replicate, List.cons_append, List.nil_append, opd, Env.put, Env.at, List.set_cons_zero, List.set_cons_succ, List.getD_cons_zero, List.getD_cons_succ, freezeL, resVs, oneOr, Option.map_some, Option.map_none, List.map_cons, List.map_nil, if_true, if_false, Bool.not_true, Bool.not_false, Bool.false_eq_true, reduceIte, decide_true, decide_false, Int.reduceLT, Int.reduceLE, Int.reduceGT, Int.reduceGE, Int.reduceEq, Int.reduceBEq, Int.reduceBNe, load_ptr, ldV_some, cellAt_cells, List.getElem?_cons_zero, List.getElem?_cons_succ, store_ptr, stO_some, setAt_0, setAt_1, setAt_2, setAt_3, setAt_4, setAt_5, setAt_6, setAt_7, setAt_8, setAt_9, setAt_10, setAt_11, setAt_12, cells_int, cells_bool, cells_str, cells_nils, cells_nilp, cells_ptr, cells_sl, cells_u8, cells_u16, cells_agg, get_upd_is, Option.isSome_some, upd_upd, ev1_nchkV, ev1_faV, nchkV_ptr, faV_ptr, ev1_extV, extV_tup, eqptr_nil, eqptr_ptr, Nat.zero_add, Nat.add_zero, qPL0, qPL1, qPL2, qPL3, qPL4, qPL5, beq_self_eq_true]
          · rw [decide_eq_false hm] at h58
            rw [if_neg hm] at hR
            rw [hR]
            simp only [M39, M39r1, M39b1, E39o, S38, Z5, d0, y1, y2, y3, y4, y5, h58, getOV, Of5.cells, ofC, ev1_build, fill_nil, ev1_ixpV, qES0, qES1, qES2, env0, List.length_cons, List.length_nil, Nat.reduceAdd, Nat.reduceSub, List.replicate, List.cons_append, List.nil_append, opd, Env.put, Env.at, List.set_cons_zero, List.set_cons_succ, List.getD_cons_zero, List.getD_cons_succ, freezeL, resVs, oneOr, Option.map_some, Option.map_none, List.map_cons, List.map_nil, if_true, if_false, Bool.not_true, Bool.not_false, Bool.false_eq_true, reduceIte, decide_true, decide_false, Int.reduceLT, Int.reduceLE, Int.reduceGT, Int.reduceGE, Int.reduceEq, Int.reduceBEq, Int.reduceBNe, load_ptr, ldV_some, cellAt_cells, List.getElem?_cons_zero, List.getElem?_cons_succ, store_ptr, stO_some, setAt_0, setAt_1, setAt_2, setAt_3, setAt_4, setAt_5, setAt_6, setAt_7, setAt_8, setAt_9, setAt_10, setAt_11, setAt_12, cells_int, cells_bool, cells_str, cells_nils, cells_nilp, cells_ptr, cells_sl, cells_u8, cells_u16, cells_agg, get_upd_is, Option.isSome_some, upd_upd, ev1_nchkV, ev1_faV, nchkV_ptr, faV_ptr, ev1_extV, extV_tup, eqptr_nil, eqptr_ptr, Nat.zero_add, Nat.add_zero, qPL0, qPL1, qPL2, qPL3, qPL4, qPL5, beq_self_eq_true]
        · simp only [M39b1, E39o, d0, qES0, qES1, qES2, env0, List.length_cons, List.length_nil, Nat.reduceAdd, Nat.reduceSub, List.replicate, List.cons_append, List.nil_append, opd, Env.put, Env.at, List.set_cons_zero, List.set_cons_succ, List.getD_cons_zero, List.getD_cons_succ, freezeL, resVs, oneOr, Option.map_some, Option.map_none, List.map_cons, List.map_nil, if_true, if_false, Bool.not_true, Bool.not_false, Bool.false_eq_true, reduceIte, decide_true, decide_false, Int.reduceLT, Int.reduceLE, Int.reduceGT, Int.reduceGE, Int.reduceEq, Int.reduceBEq, Int.reduceBNe, load_ptr, ldV_some, cellAt_cells, List.getElem?_cons_zero, List.getElem?_cons_succ, store_ptr, stO_some, setAt_0, setAt_1, setAt_2, setAt_3, setAt_4, setAt_5, setAt_6, setAt_7, setAt_8, setAt_9, setAt_10, setAt_11, setAt_12, cells_int, cells_bool, cells_str, cells_nils, cells_nilp, cells_ptr, cells_sl, cells_u8, cells_u16, cells_agg, get_upd_is, Option.isSome_some, upd_upd, ev1_nchkV, ev1_faV, nchkV_ptr, faV_ptr, ev1_extV, extV_tup, eqptr_nil, eqptr_ptr, Nat.zero_add, Nat.add_zero, qPL0, qPL1, qPL2, qPL3, qPL4, qPL5, beq_self_eq_true] at hh
          cases hh
    simp only [M39, h40, evC_loop, ev1_extV, qES0, qES1, qES2, env0, List.length_cons, List.length_nil, Nat.reduceAdd, Nat.reduceSub, List.replicate, List.cons_append, List.nil_append, opd, Env.put, Env.at, List.set_cons_zero, List.set_cons_succ, List.getD_cons_zero, List.getD_cons_succ, freezeL, resVs, oneOr, Option.map_some, Option.map_none, List.map_cons, List.map_nil, if_true, if_false, Bool.not_true, Bool.not_false, Bool.false_eq_true, reduceIte, decide_true, decide_false, Int.reduceLT, Int.reduceLE, Int.reduceGT, Int.reduceGE, Int.reduceEq, Int.reduceBEq, Int.reduceBNe, load_ptr, ldV_some, cellAt_cells, List.getElem?_cons_zero, List.getElem?_cons_succ, store_ptr, stO_some, setAt_0, setAt_1, setAt_2, setAt_3, setAt_4, setAt_5, setAt_6, setAt_7, setAt_8, setAt_9, setAt_10, setAt_11, setAt_12, cells_int, cells_bool, cells_str, cells_nils, cells_nilp, cells_ptr, cells_sl, cells_u8, cells_u16, cells_agg, get_upd_is, Option.isSome_some, upd_upd, ev1_nchkV, ev1_faV, nchkV_ptr, faV_ptr, ev1_extV, extV_tup, eqptr_nil, eqptr_ptr, Nat.zero_add, Nat.add_zero, qPL0, qPL1, qPL2, qPL3, qPL4, qPL5, beq_self_eq_true]
    exact key _ rfl
end Go.Proofs.YtbeimfhodgmjhaaDoor
/- Offers as bytes, and back, as what they answer. No conditions. -/
set_option linter.unusedSimpArgs false
set_option linter.unusedVariables false
set_option maxRecDepth 100000
set_option maxHeartbeats 4000000
namespace Go.Proofs.YtbeimfhodgmjhaaDoor
open Go Go.Ab
theorem tmod_fix (x d : Int) (hd : 0 < d) : (x.tmod d + d).tmod d = x % d := by
  have h1 := Int.mul_tdiv_add_tmod x d
  have h2 : -d < x.tmod d := by
    rcases Int.le_total 0 x with h | h
    · have := Int.tmod_nonneg d h; omega
    · have := Int.tmod_lt_of_pos (-x) hd
      rw [Int.neg_tmod] at this
      omega
  rw [Int.tmod_eq_emod_of_nonneg (by omega)]
  have : x.tmod d + d = x + d * (1 - x.tdiv d) := by rw [Int.mul_sub, Int.mul_one]; omega
  rw [this, Int.add_mul_emod_self_left]
theorem tmod_le (x d : Int) (hd : 0 < d) : -d < x.tmod d ∧ x.tmod d < d := by
  refine ⟨?_, Int.tmod_lt_of_pos x hd⟩
  rcases Int.le_total 0 x with h | h
  · have := Int.tmod_nonneg d h; omega
  · have := Int.tmod_lt_of_pos (-x) hd
    rw [Int.neg_tmod] at this
    omega
theorem text_val (l : List UInt8) (n : Nat) : valR (evB 1000 22 [.str l, .int .i64 (n : Int)] St.nil) = some (.str (l.take n)) := by
  rw [show (1000 : Nat) = 999 + 1 from rfl, evB_in rfl tab22]
  have lst : lensV' (.str l) = some (.int .i64 (l.length : Nat)) := rfl
  have hs := slcS_str l ((min l.length n : Nat) : Int) (by omega) (by omega)
  have hm : (if (n : Int) < ((l.length : Nat) : Int) then (n : Int) else ((l.length : Nat) : Int)) = ((min l.length n : Nat) : Int) := by split <;> omega
  have ht : l.take (min l.length n) = l.take n := by
    rcases Nat.le_total l.length n with h | h
    · rw [Nat.min_eq_left h, List.take_length, List.take_of_length_le h]
    · rw [Nat.min_eq_right h]
  rw [Int.toNat_natCast, ht] at hs
  simp only [M22, lst, mn2_i64, evP_mn2, hm, hs, ev1_lensV', ev1_slsV, qES0, qES1, qES2, env0, List.length_cons, List.length_nil, Nat.reduceAdd, Nat.reduceSub, List.replicate, List.cons_append, List.nil_append, opd, Env.put, Env.at, List.set_cons_zero, List.set_cons_succ, List.getD_cons_zero, List.getD_cons_succ, freezeL, resVs, oneOr, Option.map_some, Option.map_none, List.map_cons, List.map_nil, if_true, if_false, Bool.not_true, Bool.not_false, Bool.false_eq_true, reduceIte, decide_true, decide_false, Int.reduceLT, Int.reduceLE, Int.reduceGT, Int.reduceGE, Int.reduceEq, Int.reduceBEq, Int.reduceBNe, load_ptr, ldV_some, cellAt_cells, List.getElem?_cons_zero, List.getElem?_cons_succ, store_ptr, stO_some, setAt_0, setAt_1, setAt_2, setAt_3, setAt_4, setAt_5, setAt_6, setAt_7, setAt_8, setAt_9, setAt_10, setAt_11, setAt_12, cells_int, cells_bool, cells_str, cells_nils, cells_nilp, cells_ptr, cells_sl, cells_u8, cells_u16, cells_agg, get_upd_is, Option.isSome_some, upd_upd, ev1_nchkV, ev1_faV, nchkV_ptr, faV_ptr, ev1_extV, extV_tup, eqptr_nil, eqptr_ptr, Nat.zero_add, Nat.add_zero, qPL0, qPL1, qPL2, qPL3, qPL4, qPL5, beq_self_eq_true]
def hText : List AV → St → Option AV
  | [.str l, .int .i64 n], _ => if 0 ≤ n then some (.str (l.take n.toNat)) else none
  | _, _ => none
theorem puText : PureOk (evB 1000) 22 hText := pureOk_of (by
  intro args s v hv
  unfold hText at hv
  split at hv
  · rename_i l n
    split at hv
    · rename_i hn
      cases hv
      have := text_val l n.toNat
      rw [Int.toNat_of_nonneg hn] at this
      exact ⟨rfl, rfl, this⟩
    · cases hv
  · cases hv)
def hQPut : List AV → St → Option AV
  | [v], _ => (toOf v).map fun o => .tup [.str (if o.may then offB o else []), .bool (decide o.may)]
  | _, _ => none
def hQGet : List AV → St → Option AV
  | [.str s], _ => some (getOV (getO s))
  | _, _ => none
theorem pureQPut {call : Calls'} {F : Nat} (h : ∀ o : Of5, valR (call F [.agg o.cells] St.nil) = some (.tup [.str (if o.may then offB o else []), .bool (decide o.may)])) : PureOk call F hQPut := pureOk_of (by
  intro args s v hv
  unfold hQPut at hv
  split at hv
  · obtain ⟨o, ho, rfl⟩ := Option.map_eq_some_iff.1 hv
    rw [toOf_of ho]
    exact ⟨rfl, by simp [flatL, o.flat], h o⟩
  · cases hv)
theorem pureQGet {call : Calls'} {F : Nat} (h : ∀ s, valR (call F [.str s] St.nil) = some (getOV (getO s))) : PureOk call F hQGet := pureOk_of (by
  intro args s v hv
  unfold hQGet at hv
  split at hv
  · cases hv
    refine ⟨?_, rfl, h _⟩
    cases getO _ <;> rfl
  · cases hv)
theorem puK23 : PureOk (evB 1000) 23 (hQPut) := (pureQPut qput_val)
theorem puK24 : PureOk (evB 1000) 24 (hQPut) := (pureQPut rqput_val)
theorem puK38 : PureOk (evB 1000) 38 (hQGet) := (pureQGet qget_val)
theorem puK39 : PureOk (evB 1000) 39 (hQGet) := (pureQGet rqget_val)
def lstK (f : Nat) : Option (List AV → St → Option AV) := if f = 22 then some (hText) else if f = 23 then some (hQPut) else if f = 24 then some (hQPut) else if f = 38 then some (hQGet) else if f = 39 then some (hQGet) else none
noncomputable def extK := extWith extB lstK
theorem extK_ok : ∀ w0, ExtOk Tryd.prog tabGl w0 extK := extOk_add (tableOf_ok _) mixed tab_flat (extB_ok) lstK (by
  intro f h hf
  unfold lstK at hf
  rcases some_of hf with ⟨rfl, rfl⟩ | hf
  · exact ⟨by rw [tab22]; rfl, 1000, puText⟩
  rcases some_of hf with ⟨rfl, rfl⟩ | hf
  · exact ⟨by rw [tab23]; rfl, 1000, puK23⟩
  rcases some_of hf with ⟨rfl, rfl⟩ | hf
  · exact ⟨by rw [tab24]; rfl, 1000, puK24⟩
  rcases some_of hf with ⟨rfl, rfl⟩ | hf
  · exact ⟨by rw [tab38]; rfl, 1000, puK38⟩
  rcases some_of hf with ⟨rfl, rfl⟩ | hf
  · exact ⟨by rw [tab39]; rfl, 1000, puK39⟩
  cases hf)
noncomputable def evK : Nat → Calls' := evF tabGl (tableOf Tryd.prog) extK
theorem evK_ok (w0 : World) (k : Nat) : CallOk Tryd.prog tabGl w0 (evK k) := evF_sound (tableOf_ok _) (extK_ok w0) mixed k
theorem evK_in {k f : Nat} {m : MFun} (hx : extK f = none) (hF : tableOf Tryd.prog f = some m) (args : List AV) (s : St) :
    evK (k + 1) f args s = outR m.res (evC tabGl (evK k) k m.body (env0 m.ntmps args) s) := evF_in hx hF args s
theorem k26 (k : Nat) (n : Int) (s : St) : evK (k + 1) 26 [.int .i64 n] s = some (.int .i64 (highZ n), s) := evF_ext (H := h1 highZ) rfl rfl
theorem k27 (k : Nat) (n : Int) (s : St) : evK (k + 1) 27 [.int .i64 n] s = some (.int .i64 (highZ n), s) := evF_ext (H := h1 highZ) rfl rfl
theorem k28 (k : Nat) (n : Int) (s : St) : evK (k + 1) 28 [.int .i64 n] s = some (.int .i64 (lowZ n), s) := evF_ext (H := h1 lowZ) rfl rfl
theorem k29 (k : Nat) (n : Int) (s : St) : evK (k + 1) 29 [.int .i64 n] s = some (.int .i64 (lowZ n), s) := evF_ext (H := h1 lowZ) rfl rfl
theorem k30 (k : Nat) (n : Int) (s : St) : evK (k + 1) 30 [.int .i64 n] s = some (.int .i64 (baudZ n), s) := evF_ext (H := h1 baudZ) rfl rfl
theorem k31 (k : Nat) (n : Int) (s : St) : evK (k + 1) 31 [.int .i64 n] s = some (.int .i64 (baudZ n), s) := evF_ext (H := h1 baudZ) rfl rfl
theorem k32 (k : Nat) (n : Int) (s : St) : evK (k + 1) 32 [.int .i64 n] s = some (.int .i64 (silentZ n), s) := evF_ext (H := h1 silentZ) rfl rfl
theorem k33 (k : Nat) (n : Int) (s : St) : evK (k + 1) 33 [.int .i64 n] s = some (.int .i64 (silentZ n), s) := evF_ext (H := h1 silentZ) rfl rfl
theorem k34 (k : Nat) (n : Int) (s : St) : evK (k + 1) 34 [.int .i64 n] s = some (.int .i64 (sizeZ n), s) := evF_ext (H := h1 sizeZ) rfl rfl
theorem k35 (k : Nat) (n : Int) (s : St) : evK (k + 1) 35 [.int .i64 n] s = some (.int .i64 (sizeZ n), s) := evF_ext (H := h1 sizeZ) rfl rfl
theorem k36 (k : Nat) (a b : Int) (h : has1 a b) (s : St) : evK (k + 1) 36 [.int .i64 a, .int .i64 b] s = some (.int .i64 (ticksZ a b), s) := evF_ext (H := h2 has1 ticksZ) rfl (if_pos h)
theorem k37 (k : Nat) (a b : Int) (h : has1 a b) (s : St) : evK (k + 1) 37 [.int .i64 a, .int .i64 b] s = some (.int .i64 (ticksZ a b), s) := evF_ext (H := h2 has1 ticksZ) rfl (if_pos h)
theorem k44 (k : Nat) (a b : Int) (h : small1 a b) (s : St) : evK (k + 1) 44 [.int .i64 a, .int .i64 b] s = some (.int .i64 (frameZ a b), s) := evF_ext (H := h2 small1 frameZ) rfl (if_pos h)
theorem k45 (k : Nat) (a b : Int) (h : small1 a b) (s : St) : evK (k + 1) 45 [.int .i64 a, .int .i64 b] s = some (.int .i64 (frameZ a b), s) := evF_ext (H := h2 small1 frameZ) rfl (if_pos h)
theorem k21 (k : Nat) (s : St) : evK (k + 1) 21 [] s = some (.bool true, s) := evF_ext (H := hTrue) rfl rfl
theorem k22 (k : Nat) (l : List UInt8) (n : Nat) (s : St) : evK (k + 1) 22 [.str l, .int .i64 (n : Int)] s = some (.str (l.take n), s) := evF_ext (H := hText) rfl (by
  show (if (0 : Int) ≤ (n : Int) then some (AV.str (l.take ((n : Int)).toNat)) else none) = _
  rw [if_pos (by omega), Int.toNat_natCast])
theorem k25 (k : Nat) (o : Of5) (s : St) : evK (k + 1) 25 [.agg o.cells] s = some (.bool (decide o.may), s) := evF_ext (H := hMayO) rfl rfl
theorem k58 (k : Nat) (o : Of5) (s : St) : evK (k + 1) 58 [.agg o.cells] s = some (.bool (decide o.may), s) := evF_ext (H := hMayO) rfl rfl
theorem k23 (k : Nat) (o : Of5) (s : St) : evK (k + 1) 23 [.agg o.cells] s = some (.tup [.str (if o.may then offB o else []), .bool (decide o.may)], s) := evF_ext (H := hQPut) rfl rfl
theorem k24 (k : Nat) (o : Of5) (s : St) : evK (k + 1) 24 [.agg o.cells] s = some (.tup [.str (if o.may then offB o else []), .bool (decide o.may)], s) := evF_ext (H := hQPut) rfl rfl
theorem k38 (k : Nat) (t : List UInt8) (s : St) : evK (k + 1) 38 [.str t] s = some (getOV (getO t), s) := evF_ext (H := hQGet) rfl rfl
theorem k39 (k : Nat) (t : List UInt8) (s : St) : evK (k + 1) 39 [.str t] s = some (getOV (getO t), s) := evF_ext (H := hQGet) rfl rfl
theorem k41 (k : Nat) {v : AV} {l : List Tp} (h : IsTp v l) (hl : l.length ≤ 100) (s : St) : evK (k + 1) 41 [v] s = some (.tup [.str (if putOk l then encL l else []), .bool (decide (putOk l))], s) := evF_ext (H := hTPut) rfl (by
  simp only [List.map_cons, List.map_nil, hTPut, toTp_is h]; rw [if_pos hl])
theorem k60 (k : Nat) {v : AV} {l : List Tp} (h : IsTp v l) (hl : l.length ≤ 100) (s : St) : evK (k + 1) 60 [v] s = some (.tup [.str (if putOk l then encL l else []), .bool (decide (putOk l))], s) := evF_ext (H := hTPut) rfl (by
  simp only [List.map_cons, List.map_nil, hTPut, toTp_is h]; rw [if_pos hl])
theorem k67 (k : Nat) (t : List UInt8) (s : St) : evK (k + 1) 67 [.str t] s = some (getV (getL t), s) := evF_ext (H := hTGet) rfl rfl
theorem k40 (k : Nat) (t : List UInt8) (s : St) : evK (k + 1) 40 [.str t] s = some (getV (getL t), s) := evF_ext (H := hTGet) rfl rfl
/-! Bytes of an offer, read. -/
theorem u8n_val (n : Int) (h0 : 0 ≤ n) (h1 : n ≤ 255) : ((u8n n).toNat : Int) = n := by
  unfold u8n; simp; omega
theorem getL_offB (o : Of5) : getL (offB o) = some (tupO o) := rfl
theorem ofL_tupO (o : Of5) (h : o.may) : ofL (tupO o) = o := by
  have h' : mayP o.b o.s o.w o.z o.t := h
  unfold mayP at h'
  show (⟨((u8n o.b).toNat : Int), ((u8n o.s).toNat : Int), ((u8n o.w).toNat : Int), ((u8n o.z).toNat : Int), ((u8n o.t).toNat : Int)⟩ : Of5) = o
  rw [u8n_val o.b (by omega) (by omega), u8n_val o.s (by omega) (by omega), u8n_val o.w (by omega) (by omega), u8n_val o.z (by omega) (by omega), u8n_val o.t (by omega) (by omega)]
theorem getO_offB (o : Of5) (h : o.may) : getO (offB o) = some o := by
  unfold getO
  rw [getL_offB]
  show (if (ofL (tupO o)).may then some (ofL (tupO o)) else none) = _
  rw [ofL_tupO o h, if_pos h]
theorem getO_few {s : List UInt8} {l : List Tp} (h : getL s = some l) (j : Nat) (hj : j < 5) (h0 : setOf l ((j : Int) + 1) = 0) : getO s = none := by
  unfold getO
  rw [h]
  exact if_neg (not_may _ j hj ((ofL_sets l j hj).trans h0))
theorem getO_bad {s : List UInt8} (h : getL s = none) : getO s = none := by unfold getO; rw [h]
theorem getO_cut (o : Of5) (k : Nat) (hk : k < 15) : getO ((offB o).take k) = none := by
  match k, hk with
  | 0, _ => exact getO_few (l := []) rfl 0 (by omega) rfl
  | 1, _ => exact getO_bad rfl
  | 2, _ => exact getO_bad rfl
  | 3, _ => exact getO_few (l := (tupO o).take 1) rfl 1 (by omega) rfl
  | 4, _ => exact getO_bad rfl
  | 5, _ => exact getO_bad rfl
  | 6, _ => exact getO_few (l := (tupO o).take 2) rfl 2 (by omega) rfl
  | 7, _ => exact getO_bad rfl
  | 8, _ => exact getO_bad rfl
  | 9, _ => exact getO_few (l := (tupO o).take 3) rfl 3 (by omega) rfl
  | 10, _ => exact getO_bad rfl
  | 11, _ => exact getO_bad rfl
  | 12, _ => exact getO_few (l := (tupO o).take 4) rfl 4 (by omega) rfl
  | 13, _ => exact getO_bad rfl
  | 14, _ => exact getO_bad rfl
end Go.Proofs.YtbeimfhodgmjhaaDoor
