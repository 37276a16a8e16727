/- qos.Put and the document's PutOffer, as the evaluator answers them. No conditions. -/
import Derived.Test.YtbeimfhodgmjhaaDoorQ8
set_option linter.unusedSimpArgs false
set_option linter.unusedVariables false
set_option maxRecDepth 100000
set_option maxHeartbeats 4000000
namespace Go.Proofs.YtbeimfhodgmjhaaDoor
open Go Go.Ab
theorem b41 (k : Nat) {v : AV} {l : List Tp} (h : IsTp v l) (hl : l.length ≤ 100) (s : St) : evB (k + 1) 41 [v] s = some (.tup [.str (if putOk l then encL l else []), .bool (decide (putOk l))], s) := evF_ext (H := hTPut) rfl (by
  simp only [List.map_cons, List.map_nil, hTPut, toTp_is h]; rw [if_pos hl])
theorem b60 (k : Nat) {v : AV} {l : List Tp} (h : IsTp v l) (hl : l.length ≤ 100) (s : St) : evB (k + 1) 60 [v] s = some (.tup [.str (if putOk l then encL l else []), .bool (decide (putOk l))], s) := evF_ext (H := hTPut) rfl (by
  simp only [List.map_cons, List.map_nil, hTPut, toTp_is h]; rw [if_pos hl])
theorem b67 (k : Nat) (t : List UInt8) (s : St) : evB (k + 1) 67 [.str t] s = some (getV (getL t), s) := evF_ext (H := hTGet) rfl rfl
theorem b40 (k : Nat) (t : List UInt8) (s : St) : evB (k + 1) 40 [.str t] s = some (getV (getL t), s) := evF_ext (H := hTGet) rfl rfl
theorem b68 (k : Nat) {v : AV} {l : List Tp} (h : IsTp v l) (hl : l.length ≤ 100) (id : Int) (s : St) : evB (k + 1) 68 [v, .int .i64 id] s = some (findV (findT id l), s) := evF_ext (H := hFind) rfl (by
  simp only [List.map_cons, List.map_nil, hFind, toTp_is h, dry1_int]; rw [if_pos hl])
theorem fill1_int (cs : List AV) (o : Nat) (k : IntKind) (n : Int) (h : o < cs.length) : fill1 cs o 1 (.int k n) = some (cs.set o (.int k n)) := fill1_c _ _ _ rfl h
theorem fill1_u8v (cs : List AV) (o : Nat) (x : UInt8) (h : o < cs.length) : fill1 cs o 1 (u8v x) = some (cs.set o (u8v x)) := fill1_c _ _ _ rfl h
/-! The bytes of an offer. -/
def u8n (n : Int) : UInt8 := UInt8.ofNat n.toNat
def Of5.sets (o : Of5) : List Int := [o.b, o.s, o.w, o.z, o.t]
def tupO (o : Of5) : List Tp := [(1, [u8n o.b]), (2, [u8n o.s]), (3, [u8n o.w]), (4, [u8n o.z]), (5, [u8n o.t])]
def offB (o : Of5) : List UInt8 := [1, 1, u8n o.b, 2, 1, u8n o.s, 3, 1, u8n o.w, 4, 1, u8n o.z, 5, 1, u8n o.t]
theorem encL_tupO (o : Of5) : encL (tupO o) = offB o := rfl
theorem putOk_tupO (o : Of5) : putOk (tupO o) := by
  refine ⟨fun t ht => ?_, by rw [encL_tupO]; simp [offB]⟩
  simp only [tupO, List.mem_cons, List.not_mem_nil, or_false] at ht
  rcases ht with rfl | rfl | rfl | rfl | rfl <;> (refine ⟨?_, ?_, ?_⟩ <;> simp)
def E23 (acc : AV) (o : Of5) (tk : Option (Nat × Nat × Nat)) (i : Int) : Env := [.undef, .undef, .undef, .undef, acc, .undef, .undef, .undef, .undef, .undef, .undef, .undef, .undef, .undef, .undef, .undef, .undef, .undef, .undef, .undef, .sl (o.sets.map (.int .i64 ·)) 5 tk, .int .i64 5, .int .i64 i, .undef, .undef, .undef, .undef, .undef, .undef, .undef, .undef, .undef, .undef, .undef, .undef, .undef, .undef, .undef, .undef, .undef, .undef, .undef]
theorem conv_b2s_one (a : UInt8) (tk) : convP .b2s (.sl [u8v a] 1 tk) = some (.str [a]) := by
  show (toBytes (bytesAV [a])).map AV.str = _
  rw [toBytes_bytesAV]; rfl
theorem tupO_at (o : Of5) (i : Nat) (hi : i < 5) : (tupO o).take (i + 1) = (tupO o).take i ++ [(((i : Nat) : Int) + 1, [u8n (o.sets.getD i 0)])] := by
  match i, hi with
  | 0, _ => rfl
  | 1, _ => rfl
  | 2, _ => rfl
  | 3, _ => rfl
  | 4, _ => rfl
theorem qput_val (o : Of5) : valR (evB 1000 23 [.agg o.cells] St.nil) = some (.tup [.str (if o.may then offB o else []), .bool (decide o.may)]) := by
  rw [show (1000 : Nat) = 999 + 1 from rfl, evB_in rfl tab23, show St.nil = St.nil.pl [] from rfl]
  have hm := b25 998 o
  by_cases g : o.may
  · rw [if_pos g, decide_eq_true g]
    rw [decide_eq_true g] at hm
    have g' : mayP o.b o.s o.w o.z o.t := g
    unfold mayP at g'
    have hset : ∀ i : Nat, i < 5 → 0 ≤ o.sets.getD i 0 ∧ o.sets.getD i 0 ≤ 255 := by
      intro i hi
      match i, hi with
      | 0, _ => show 0 ≤ o.b ∧ o.b ≤ 255; omega
      | 1, _ => show 0 ≤ o.s ∧ o.s ≤ 255; omega
      | 2, _ => show 0 ≤ o.w ∧ o.w ≤ 255; omega
      | 3, _ => show 0 ≤ o.z ∧ o.z ≤ 255; omega
      | 4, _ => show 0 ≤ o.t ∧ o.t ≤ 255; omega
    have key : ∀ e s tk, maskE M23b0l e = E23 .nils o tk 0 → valR (outR M23.res (seqR (blockR 0 (iter (evC tabGl (evB 999) 999 M23b0) M23b0l 999 e s)) (evC tabGl (evB 999) 999 M23r0))) = some (.tup [.str (offB o), .bool true]) := by
      intro e s tk he
      refine iter_leave (evC tabGl (evB 999) 999 M23b0) M23b0l (fun i e st => ∃ acc, maskE M23b0l e = E23 acc o tk (i : Int) ∧ OwnG 2 st acc (tpC ((tupO o).take i)) ((tupO o).take i).length)
        (fun out => valR (outR M23.res (seqR (blockR 0 out) (evC tabGl (evB 999) 999 M23r0))) = some (.tup [.str (offB o), .bool true])) 5 ?_ ?_ 5 0 _ _ 999 (by omega) ⟨.nils, he, OwnG.nil _ _⟩ (by omega)
      · rintro i e st hi ⟨acc, h1, h2⟩
        rw [h1]
        left
        have d0 : decide ((i : Int) < 5) = true := decide_eq_true (by omega)
        have w1 : IntKind.i64.wrap ((i : Int) + 1) = (i : Int) + 1 := wrapI _ (by omega) (by omega)
        have x : ixaV 1 (.sl (o.sets.map (.int .i64 ·)) 5 tk) (.int .i64 (i : Int)) = some (.rp ((o.sets.drop i).map (.int .i64 ·))) := by
          have h1 : idx 5 (.int .i64 (i : Int)) = some i := by simp [idx]; omega
          simp only [ixaV, h1, Nat.mul_one, List.map_drop]
        obtain ⟨a, ha⟩ : ∃ a, o.sets.getD i 0 = a := ⟨_, rfl⟩
        have hs := hset i hi
        rw [ha] at hs
        have c : Ab.cut ((o.sets.drop i).map (AV.int .i64 ·)) 0 none = some (.int .i64 a) := by
          simp only [Ab.cut, List.getElem?_map, List.getElem?_drop, Nat.add_zero]
          rw [← ha, List.getD_eq_getElem?_getD, List.getElem?_eq_getElem (show i < o.sets.length from hi)]
          rfl
        have b1 := u8of a hs.1 hs.2
        have b2 := conv_b2s_one (UInt8.ofNat a.toNat)
        obtain ⟨z1, S1, a1, a2, a3⟩ := (h2.ext (pl_ext st [.tick 1 0, .tick 2 0])).app (bytes := 24) (y := .sl [.int .i64 ((i : Int) + 1), .str [UInt8.ofNat a.toNat]] 1 (some (st.next + 1, 0, 2))) (ds := [.int .i64 ((i : Int) + 1), .str [UInt8.ofNat a.toNat]]) (m := 1) rfl rfl (by decide) (by simp [fits, List.length_take, tupO]; omega)
        have f8 : ∀ n : Int, fill1 [.int .u8 0] 0 1 (u8v (UInt8.ofNat a.toNat)) = some [u8v (UInt8.ofNat a.toNat)] := fun _ => fill1_c _ _ _ rfl (by simp)
        have f9 := f8 0
        rw [show st = st.pl [] from rfl]
        simp only [M23b0, E23, d0, w1, x, c, b1, b2, a1, f9, conv_int, loadR_rp, ev1_build, qES0, qES1, qES2, env0, List.length_cons, List.length_nil, Nat.reduceAdd, Nat.reduceSub, List.replicate, List.cons_append, List.nil_append, opd, Env.put, Env.at, List.set_cons_zero, List.set_cons_succ, List.getD_cons_zero, List.getD_cons_succ, freezeL, resVs, oneOr, Option.map_some, Option.map_none, List.map_cons, List.map_nil, if_true, if_false, Bool.not_true, Bool.not_false, Bool.false_eq_true, reduceIte, decide_true, decide_false, Int.reduceLT, Int.reduceLE, Int.reduceGT, Int.reduceGE, Int.reduceEq, Int.reduceBEq, Int.reduceBNe, load_ptr, ldV_some, cellAt_cells, List.getElem?_cons_zero, List.getElem?_cons_succ, store_ptr, stO_some, setAt_0, setAt_1, setAt_2, setAt_3, setAt_4, setAt_5, setAt_6, setAt_7, setAt_8, setAt_9, setAt_10, setAt_11, setAt_12, cells_int, cells_bool, cells_str, cells_nils, cells_nilp, cells_ptr, cells_sl, cells_u8, cells_u16, cells_agg, get_upd_is, Option.isSome_some, upd_upd, ev1_nchkV, ev1_faV, nchkV_ptr, faV_ptr, ev1_extV, extV_tup, eqptr_nil, eqptr_ptr, Nat.zero_add, Nat.add_zero, qPL0, qPL1, qPL2, qPL3, qPL4, qPL5, beq_self_eq_true]
        refine ⟨_, _, rfl, z1, rfl, ?_⟩
        rw [tupO_at o i hi, tpC_append, List.length_append, ha]
        exact a2
      · rintro e st ⟨acc, h1, h2⟩
        rw [h1]
        have ht : (tupO o).take 5 = tupO o := rfl
        rw [ht] at h2
        have hI : IsTp acc (tupO o) := by
          rcases h2 with ⟨_, h, _⟩ | ⟨_, t, v, h, _⟩
          · exact absurd h (by simp [tupO])
          · exact .inr ⟨_, h⟩
        have h41 := b41 998 hI (by simp [tupO])
        rw [if_pos (putOk_tupO o), decide_eq_true (putOk_tupO o), encL_tupO] at h41
        have fz := hI.freeze
        have d0 : decide (((5 : Nat) : Int) < 5) = false := rfl
        refine ⟨?_, fun e' s' hh => ?_⟩
        · simp only [M23, M23r0, M23b0, E23, d0, h41, fz, qES0, qES1, qES2, env0, List.length_cons, List.length_nil, Nat.reduceAdd, Nat.reduceSub, List.replicate, List.cons_append, List.nil_append, opd, Env.put, Env.at, List.set_cons_zero, List.set_cons_succ, List.getD_cons_zero, List.getD_cons_succ, freezeL, resVs, oneOr, Option.map_some, Option.map_none, List.map_cons, List.map_nil, if_true, if_false, Bool.not_true, Bool.not_false, Bool.false_eq_true, reduceIte, decide_true, decide_false, Int.reduceLT, Int.reduceLE, Int.reduceGT, Int.reduceGE, Int.reduceEq, Int.reduceBEq, Int.reduceBNe, load_ptr, ldV_some, cellAt_cells, List.getElem?_cons_zero, List.getElem?_cons_succ, store_ptr, stO_some, setAt_0, setAt_1, setAt_2, setAt_3, setAt_4, setAt_5, setAt_6, setAt_7, setAt_8, setAt_9, setAt_10, setAt_11, setAt_12, cells_int, cells_bool, cells_str, cells_nils, cells_nilp, cells_ptr, cells_sl, cells_u8, cells_u16, cells_agg, get_upd_is, Option.isSome_some, upd_upd, ev1_nchkV, ev1_faV, nchkV_ptr, faV_ptr, ev1_extV, extV_tup, eqptr_nil, eqptr_ptr, Nat.zero_add, Nat.add_zero, qPL0, qPL1, qPL2, qPL3, qPL4, qPL5, beq_self_eq_true]
        · simp only [M23b0, E23, d0, qES0, qES1, qES2, env0, List.length_cons, List.length_nil, Nat.reduceAdd, Nat.reduceSub, List.replicate, List.cons_append, List.nil_append, opd, Env.put, Env.at, List.set_cons_zero, List.set_cons_succ, List.getD_cons_zero, List.getD_cons_succ, freezeL, resVs, oneOr, Option.map_some, Option.map_none, List.map_cons, List.map_nil, if_true, if_false, Bool.not_true, Bool.not_false, Bool.false_eq_true, reduceIte, decide_true, decide_false, Int.reduceLT, Int.reduceLE, Int.reduceGT, Int.reduceGE, Int.reduceEq, Int.reduceBEq, Int.reduceBNe, load_ptr, ldV_some, cellAt_cells, List.getElem?_cons_zero, List.getElem?_cons_succ, store_ptr, stO_some, setAt_0, setAt_1, setAt_2, setAt_3, setAt_4, setAt_5, setAt_6, setAt_7, setAt_8, setAt_9, setAt_10, setAt_11, setAt_12, cells_int, cells_bool, cells_str, cells_nils, cells_nilp, cells_ptr, cells_sl, cells_u8, cells_u16, cells_agg, get_upd_is, Option.isSome_some, upd_upd, ev1_nchkV, ev1_faV, nchkV_ptr, faV_ptr, ev1_extV, extV_tup, eqptr_nil, eqptr_ptr, Nat.zero_add, Nat.add_zero, qPL0, qPL1, qPL2, qPL3, qPL4, qPL5, beq_self_eq_true] at hh
          cases hh
    simp only [Of5.cells, ofC] at hm
    have ln : ∀ cs tk, lenV (.sl cs 5 tk) = some (.int .i64 5) := fun _ _ => rfl
    simp only [M23, Of5.cells, ofC, hm, ln, evC_loop, ev1_boxV, qES0, qES1, qES2, env0, List.length_cons, List.length_nil, Nat.reduceAdd, Nat.reduceSub, List.replicate, List.cons_append, List.nil_append, opd, Env.put, Env.at, List.set_cons_zero, List.set_cons_succ, List.getD_cons_zero, List.getD_cons_succ, freezeL, resVs, oneOr, Option.map_some, Option.map_none, List.map_cons, List.map_nil, if_true, if_false, Bool.not_true, Bool.not_false, Bool.false_eq_true, reduceIte, decide_true, decide_false, Int.reduceLT, Int.reduceLE, Int.reduceGT, Int.reduceGE, Int.reduceEq, Int.reduceBEq, Int.reduceBNe, load_ptr, ldV_some, cellAt_cells, List.getElem?_cons_zero, List.getElem?_cons_succ, store_ptr, stO_some, setAt_0, setAt_1, setAt_2, setAt_3, setAt_4, setAt_5, setAt_6, setAt_7, setAt_8, setAt_9, setAt_10, setAt_11, setAt_12, cells_int, cells_bool, cells_str, cells_nils, cells_nilp, cells_ptr, cells_sl, cells_u8, cells_u16, cells_agg, get_upd_is, Option.isSome_some, upd_upd, ev1_nchkV, ev1_faV, nchkV_ptr, faV_ptr, ev1_extV, extV_tup, eqptr_nil, eqptr_ptr, Nat.zero_add, Nat.add_zero, qPL0, qPL1, qPL2, qPL3, qPL4, qPL5, beq_self_eq_true]
    exact key _ _ _ rfl
  · rw [if_neg g, decide_eq_false g]
    rw [decide_eq_false g] at hm
    simp only [Of5.cells, ofC] at hm
    simp only [M23, Of5.cells, ofC, hm, ev1_boxV, qES0, qES1, qES2, env0, List.length_cons, List.length_nil, Nat.reduceAdd, Nat.reduceSub, List.replicate, List.cons_append, List.nil_append, opd, Env.put, Env.at, List.set_cons_zero, List.set_cons_succ, List.getD_cons_zero, List.getD_cons_succ, freezeL, resVs, oneOr, Option.map_some, Option.map_none, List.map_cons, List.map_nil, if_true, if_false, Bool.not_true, Bool.not_false, Bool.false_eq_true, reduceIte, decide_true, decide_false, Int.reduceLT, Int.reduceLE, Int.reduceGT, Int.reduceGE, Int.reduceEq, Int.reduceBEq, Int.reduceBNe, load_ptr, ldV_some, cellAt_cells, List.getElem?_cons_zero, List.getElem?_cons_succ, store_ptr, stO_some, setAt_0, setAt_1, setAt_2, setAt_3, setAt_4, setAt_5, setAt_6, setAt_7, setAt_8, setAt_9, setAt_10, setAt_11, setAt_12, cells_int, cells_bool, cells_str, cells_nils, cells_nilp, cells_ptr, cells_sl, cells_u8, cells_u16, cells_agg, get_upd_is, Option.isSome_some, upd_upd, ev1_nchkV, ev1_faV, nchkV_ptr, faV_ptr, ev1_extV, extV_tup, eqptr_nil, eqptr_ptr, Nat.zero_add, Nat.add_zero, qPL0, qPL1, qPL2, qPL3, qPL4, qPL5, beq_self_eq_true]
theorem rqput_val (o : Of5) : valR (evB 1000 24 [.agg o.cells] St.nil) = some (.tup [.str (if o.may then offB o else []), .bool (decide o.may)]) := by
  rw [show (1000 : Nat) = 999 + 1 from rfl, evB_in rfl tab24, show St.nil = St.nil.pl [] from rfl]
  have hm := b58 998 o
  by_cases g : o.may
  · rw [if_pos g, decide_eq_true g]
    rw [decide_eq_true g] at hm
    have g' : mayP o.b o.s o.w o.z o.t := g
    unfold mayP at g'
    have b1 := u8of o.b (by omega) (by omega)
    have b2 := u8of o.s (by omega) (by omega)
    have b3 := u8of o.w (by omega) (by omega)
    have b4 := u8of o.z (by omega) (by omega)
    have b5 := u8of o.t (by omega) (by omega)
    simp only [Of5.cells, ofC] at hm
    have cb : ∀ tk, convP .b2s (.sl [.int .u8 1, .int .u8 1, u8v (UInt8.ofNat o.b.toNat), .int .u8 2, .int .u8 1, u8v (UInt8.ofNat o.s.toNat), .int .u8 3, .int .u8 1, u8v (UInt8.ofNat o.w.toNat), .int .u8 4, .int .u8 1, u8v (UInt8.ofNat o.z.toNat), .int .u8 5, .int .u8 1, u8v (UInt8.ofNat o.t.toNat)] 15 tk) = some (.str (offB o)) := by
      intro tk
      show (toBytes (bytesAV (offB o))).map AV.str = _
      rw [toBytes_bytesAV]; rfl
    simp only [M24, Of5.cells, ofC, hm, b1, b2, b3, b4, b5, cb, fill1_int, fill1_u8v, conv_int, ev1_boxV, qES0, qES1, qES2, env0, List.length_cons, List.length_nil, Nat.reduceAdd, Nat.reduceSub, List.replicate, List.cons_append, List.nil_append, opd, Env.put, Env.at, List.set_cons_zero, List.set_cons_succ, List.getD_cons_zero, List.getD_cons_succ, freezeL, resVs, oneOr, Option.map_some, Option.map_none, List.map_cons, List.map_nil, if_true, if_false, Bool.not_true, Bool.not_false, Bool.false_eq_true, reduceIte, decide_true, decide_false, Int.reduceLT, Int.reduceLE, Int.reduceGT, Int.reduceGE, Int.reduceEq, Int.reduceBEq, Int.reduceBNe, load_ptr, ldV_some, cellAt_cells, List.getElem?_cons_zero, List.getElem?_cons_succ, store_ptr, stO_some, setAt_0, setAt_1, setAt_2, setAt_3, setAt_4, setAt_5, setAt_6, setAt_7, setAt_8, setAt_9, setAt_10, setAt_11, setAt_12, cells_int, cells_bool, cells_str, cells_nils, cells_nilp, cells_ptr, cells_sl, cells_u8, cells_u16, cells_agg, get_upd_is, Option.isSome_some, upd_upd, ev1_nchkV, ev1_faV, nchkV_ptr, faV_ptr, ev1_extV, extV_tup, eqptr_nil, eqptr_ptr, Nat.zero_add, Nat.add_zero, qPL0, qPL1, qPL2, qPL3, qPL4, qPL5, beq_self_eq_true, Nat.reduceLT]
  · rw [if_neg g, decide_eq_false g]
    rw [decide_eq_false g] at hm
    simp only [Of5.cells, ofC] at hm
    simp only [M24, Of5.cells, ofC, hm, ev1_boxV, qES0, qES1, qES2, env0, List.length_cons, List.length_nil, Nat.reduceAdd, Nat.reduceSub, List.replicate, List.cons_append, List.nil_append, opd, Env.put, Env.at, List.set_cons_zero, List.set_cons_succ, List.getD_cons_zero, List.getD_cons_succ, freezeL, resVs, oneOr, Option.map_some, Option.map_none, List.map_cons, List.map_nil, if_true, if_false, Bool.not_true, Bool.not_false, Bool.false_eq_true, reduceIte, decide_true, decide_false, Int.reduceLT, Int.reduceLE, Int.reduceGT, Int.reduceGE, Int.reduceEq, Int.reduceBEq, Int.reduceBNe, load_ptr, ldV_some, cellAt_cells, List.getElem?_cons_zero, List.getElem?_cons_succ, store_ptr, stO_some, setAt_0, setAt_1, setAt_2, setAt_3, setAt_4, setAt_5, setAt_6, setAt_7, setAt_8, setAt_9, setAt_10, setAt_11, setAt_12, cells_int, cells_bool, cells_str, cells_nils, cells_nilp, cells_ptr, cells_sl, cells_u8, cells_u16, cells_agg, get_upd_is, Option.isSome_some, upd_upd, ev1_nchkV, ev1_faV, nchkV_ptr, faV_ptr, ev1_extV, extV_tup, eqptr_nil, eqptr_ptr, Nat.zero_add, Nat.add_zero, qPL0, qPL1, qPL2, qPL3, qPL4, qPL5, beq_self_eq_true]
end Go.Proofs.YtbeimfhodgmjhaaDoor
