/- One operation that reads or turns the small heap answers as the machine's. No conditions. -/
import Derived.Test.YtbeimfhodgmjhaaDoorAb9
import Derived.Laws.IdiomStrings
set_option linter.unusedSimpArgs false
set_option linter.unusedVariables false
namespace Go.Ab
open Go

section
variable {P : Program} {G : Gh} {w0 : World} {s : St} {w : World} {gl : Nat → AV} {e : Env} {a : Act}

/-- What an operation comes to. -/
def OpOk (P : Program) (G : Gh) (w0 w : World) (a : Act) (o : Oper) (v : AV) (s' : St) : Prop :=
  ∃ G' v' w' nx, G.le G' ∧ (execOp a.eval o).run P w = .ok nx w' ∧ (nx = .value v' ∨ (nx = .skip ∧ v' = undef)) ∧ RelV G' v v' ∧ RelS G' w0 s' w'
theorem OpOk.val {o : Oper} {v : AV} {s' : St} {G' : Gh} {v' : Value} {w' : World} (hG : G.le G') (h : (execOp a.eval o).run P w = .ok (.value v') w') (hv : RelV G' v v') (hs : RelS G' w0 s' w') : OpOk P G w0 w a o v s' :=
  ⟨G', v', w', _, hG, h, .inl rfl, hv, hs⟩

theorem load_heap {o : Oper} {t : TypeId} {x : Operand} {n : Option Nat} {y : Opd} {v : AV} (heq : o.op = .load t x) (hn : cellsN P t = some n) (h1 : cOpd x = some y) (hE : RelE G gl e a) (hS : RelS G w0 s w)
    (h : evR gl e s (.load n y) = some v) : OpOk P G w0 w a o v s := by
  simp only [evR] at h
  have hr := hE.opd h1
  generalize hv : a.eval x = xv at hr
  generalize opd gl e y = yv at h hr
  cases hr <;> (try simp only at h) <;> try (cases h; done)
  rename_i b off g hrho
  split at h
  · rename_i z cs hb
    obtain ⟨g', vs, cur, E, q1, _, q3, _, _, _, q7⟩ := hS.cells hb (hS.resF hrho)
    rw [hrho] at q1
    cases q1
    obtain ⟨v', e1, e2⟩ := loadVar_sound (P := P) (w := w) (g := g) (o0 := 0) hn h q3 (fun j u hu => by rw [Nat.zero_add]; exact q7 j u hu)
    rw [Nat.zero_add] at e1
    exact OpOk.val (Gh.le_refl G) (by simp only [execOp, heq, hv]; exact exec_v (by simpa [Instr.loadAt, Instr.sureAddr] using e1)) e2 hS
  · cases h

theorem conv_heap {o : Oper} {src dst : TypeId} {x : Operand} {c : Cv} {y : Opd} {v : AV} (heq : o.op = .convert src dst x) (h1 : cOpd x = some y) (hcv : ConvAt P src dst c) (hE : RelE G gl e a) (hS : RelS G w0 s w)
    (h : evR gl e s (.conv c y) = some v) : OpOk P G w0 w a o v s := by
  simp only [evR] at h
  have hr := hE.opd h1
  generalize hv : a.eval x = xv at hr
  generalize opd gl e y = yv at h hr
  cases hr <;> (try simp only at h) <;> try (cases h; done)
  rename_i zz b off n g cap L hrho hlim hn hcap hm
  split at h
  · rename_i z cs hb
    split at h
    · rename_i hcond
      obtain ⟨hz, hcc, hfit⟩ := hcond
      subst hcc
      obtain ⟨el, c1, c2, c3⟩ := hcv
      obtain ⟨l, hl, rfl⟩ := Option.map_eq_some_iff.1 h
      obtain ⟨g', vs, cur, E, q1, _, q3, _, _, _, q7⟩ := hS.cells hb (hS.resF hrho)
      rw [hrho] at q1
      cases q1
      obtain ⟨ns, e1, e2⟩ := toBytes_sound hl ((q3.drop off).take n)
      have hlen : ((vs.drop off).take n).length = n := by rw [List.length_take, List.length_drop, ← q3.length]; omega
      obtain ⟨str, hs1, hs2⟩ := bytes_run (P := P) (w := w) (g := g) (o := off) (cap := cap) e1 hlen (fun j u hu => by
        rw [addr_add]
        rw [List.getElem?_take] at hu
        split at hu
        · rw [List.getElem?_drop] at hu; exact q7 _ _ hu
        · cases hu)
      refine OpOk.val (v' := .string str) (Gh.le_refl G) (by simp only [execOp, heq, hv]; exact exec_v (by rw [run_convert_bytes_string w src dst el _ n cap c1 c3 c2]; exact hs1)) ?_ hS
      rw [e2, ← hs2]; exact .str _
    · cases h
  · cases h

theorem take_fill (l us : List Value) (o : Nat) (h : o + us.length ≤ l.length) : fillV l o us = l.take o ++ us ++ l.drop (o + us.length) := by
  induction us generalizing l o with
  | nil => simp [fillV]
  | cons u us ih =>
    simp only [fillV, List.length_cons] at h ⊢
    rw [ih (l.set o u) (o + 1) (by rw [List.length_set]; omega)]
    have h1 : (l.set o u).take (o + 1) = l.take o ++ [u] := by
      rw [List.take_succ_eq_append_getElem (by rw [List.length_set]; omega)]
      simp only [List.take_set, List.getElem_set_self]
      rw [List.set_eq_of_length_le (by rw [List.length_take]; omega)]
    have h2 : (l.set o u).drop (o + 1 + us.length) = l.drop (o + (us.length + 1)) := by
      rw [List.drop_set, if_pos (by omega)]; congr 1; omega
    rw [h1, h2]
    simp
theorem take_mid (l us : List Value) (o m : Nat) (h : o + us.length ≤ m) (hm : m ≤ l.length) : (l.take o ++ us ++ l.drop (o + us.length)).take m = fillV (l.take m) o us := by
  rw [take_fill _ _ _ (by rw [List.length_take]; omega), List.take_append, List.take_append, List.take_take, List.take_take]
  have e1 : (l.take o ++ us).length = o + us.length := by rw [List.length_append, List.length_take]; omega
  have e2 : (l.take o).length = o := by rw [List.length_take]; omega
  rw [e1, e2, Nat.min_eq_right (show o ≤ m by omega), Nat.min_eq_left (show o ≤ m by omega), List.take_of_length_le (by omega : us.length ≤ m - o), List.drop_take]

theorem store_heap {o : Oper} {t : TypeId} {x y : Operand} {n : Nat} {x' y' : Opd} {v : AV} {s' : St} (heq : o.op = .store t x y) (hn : szOf P t = some n) (h1 : cOpd x = some x') (h2 : cOpd y = some y') (hE : RelE G gl e a) (hS : RelS G w0 s w)
    (h : evW gl e s (.store n x' y') = some (v, s')) : OpOk P G w0 w a o v s' := by
  simp only [evW] at h
  have hr := hE.opd h1
  have hry := hE.opd h2
  generalize hv : a.eval x = xv at hr
  generalize opd gl e x' = xa at h hr
  cases hr <;> (try simp only at h) <;> try (cases h; done)
  rename_i b off g hrho
  split at h
  · rename_i z cs hb
    split at h
    · rename_i vs hvs
      split at h
      · rename_i hlen
        split at h
        · rename_i cs' hst
          cases h
          have hrv := cellsOf_rel hvs hry
          unfold storeL at hst
          split at hst
          · rename_i hfit
            cases hst
            obtain ⟨g', us, cur, E, q1, _, q3, q4, q5, q6, q7⟩ := hS.cells hb (hS.resF hrho)
            rw [hrho] at q1
            cases q1
            obtain ⟨g2, cur2, E2, p1, p2, p3, p4⟩ := hS.setCells hb (hS.resF hrho) (fillL_rel off q3 hrv) (fillL_length cs off vs)
            rw [hrho] at p1
            cases p1
            rw [q4] at p2
            cases p2
            have hcl : (a.eval y).cells.toList.length = vs.length := hrv.length.symm
            have hsz : (a.eval y).cells.size = n := by rw [← Array.length_toList, hcl, hlen]
            have hrun := run_storeCells_at P g off E (a.eval y).cells.toList 0 cur w q4 (by rw [hcl]; omega) (hrv.mem)
            simp only [Nat.add_zero] at hrun
            refine ⟨G, undef, _, .skip, Gh.le_refl G, ?_, .inr ⟨rfl, rfl⟩, .undef _, p4 (cur.toList.take off ++ (a.eval y).cells.toList ++ cur.toList.drop (off + (a.eval y).cells.toList.length)).toArray ?_ ?_⟩
            · simp only [execOp, heq, hv]
              simp [Instr.storeAt, Instr.sureAddr, storeVar, szOf_run hn, hsz, hrun]
            · simp only [List.size_toArray, List.length_append, List.length_take, List.length_drop, Array.length_toList] at hcl ⊢
              omega
            · rw [← q6]
              exact take_mid _ _ _ _ (by rw [hcl]; exact hfit) (by simpa using q5)
          · cases hst
        · cases h
      · cases h
    · cases h
  · cases h

theorem alloc_heap {o : Oper} {t : TypeId} {zs : List AV} (heq : o.op = .alloc t) (hz : zeroCells' P t = some zs) (hS : RelS G w0 s w) : OpOk P G w0 w a o (.ptr s.next 0) (s.new (.cells 0 zs)) := by
  unfold zeroCells' zeroOf at hz
  obtain ⟨zv, hz1, rfl⟩ := Option.map_eq_some_iff.1 hz
  split at hz1
  · rename_i z hzz
    obtain ⟨it, hit, hz2⟩ := Option.bind_eq_some_iff.1 hzz
    have hr : RelL G (zcells zv) z.cells.toList := toAVa_cells hz1
    have hl : (zcells zv).length = z.cells.size := by have := hr.length; simpa using this
    obtain ⟨G', q1, q2, q3, q4⟩ := hS.newCells 0 (zcells zv) z.cells t z.cells.toList hr (by omega) (by rw [hl]; simp [← Array.length_toList])
    refine OpOk.val q1 (v' := .pointer (some ⟨w.heap.size, 0, none⟩)) ?_ (.ptr _ _ _ q2) q4
    simp only [execOp, heq]
    refine exec_v ?_
    simp [Instr.alloc, zeroValue, typeInfo, hit, hz2, newVar, newRow]
  · cases hz1

theorem box_heap {o : Oper} {t : TypeId} {x : Operand} {y : Opd} {v : AV} {s' : St} (heq : o.op = .box t x) (h1 : cOpd x = some y) (hE : RelE G gl e a) (hS : RelS G w0 s w)
    (h : evW gl e s (.box y) = some (v, s')) : OpOk P G w0 w a o v s' := by
  simp only [evW] at h
  split at h
  · rename_i cs hcs
    cases h
    have hr := cellsOf_rel hcs (hE.opd h1)
    have hl : cs.length = (a.eval x).cells.size := by have := hr.length; simpa using this
    obtain ⟨G', q1, q2, q3, q4⟩ := hS.newCells 0 cs (a.eval x).cells t _ hr (by omega) (by rw [hl]; simp [← Array.length_toList])
    refine OpOk.val q1 (v' := .pointer (some ⟨w.heap.size, 0, none⟩)) ?_ (.ptr _ _ _ q2) q4
    simp only [execOp, heq]
    refine exec_v ?_
    simp [Instr.box, newVar, newRow]
  · cases h

/-! ### Appends -/
/-- What an append or a copy adds, as the machine has it. -/
theorem newsOf_sound {size : Nat} {y : AV} {y' : Value} {news : List AV} {m : Nat} {tx : TypeId} (h : newsOf size s y = some (news, m)) (hy : RelV G y y') (hS : RelS G w0 s w)
    (hk : (∃ e', P.underlying tx = some (.slice e')) ∨ P.underlying tx = some .string) :
    ∃ us, RelL G news us ∧ Src P size tx y' m us w ∧ ∀ k, k ≤ m → (Builtin.firstCells size k y').run P w = .ok (us.take (k * size)).toArray w := by
  have hI := hS.immW
  have fin : ∀ {g o n cap : Nat} {us : List Value}, us.length = n * size → (∀ j u, us[j]? = some u → w.cell? ((⟨g, o, none⟩ : Addr).add j) = some u) → RelL G news us → y' = .slice (some ⟨g, o, none⟩) n cap → m = n →
      ∃ us, RelL G news us ∧ Src P size tx y' m us w ∧ ∀ k, k ≤ m → (Builtin.firstCells size k y').run P w = .ok (us.take (k * size)).toArray w := by
    intro g o n cap us hl hr hrel hy' hm
    subst hy'; subst hm
    refine ⟨us, hrel, ⟨hk, fun _ => rfl, run_firstCells_some w size m _ m cap us hl hr, run_firstCells_some w.drew size m _ m cap us hl (by simpa using hr), hl, hrel.mem⟩, fun k hkm => ?_⟩
    have htl : (us.take (k * size)).length = k * size := by
      have : k * size ≤ m * size := Nat.mul_le_mul_right _ hkm
      rw [List.length_take]; omega
    exact run_firstCells_some w size k _ _ _ _ htl (fun j u hu => by
      rw [List.getElem?_take] at hu
      split at hu
      · exact hr j u hu
      · cases hu)
  cases hy <;> (try simp only [newsOf] at h) <;> try (cases h; done)
  · -- a text
    rename_i str
    split at h
    · rename_i hs
      cases h
      subst hs
      have hlen : str.data.toList.length = str.size := by simp
      have hrel : ∀ l : List UInt8, RelL G (bytesAV l) (l.map fun b => Value.int .u8 b.toNat) := by
        intro l
        induction l with
        | nil => exact .nil
        | cons b bs ih => exact .cons _ _ _ _ (.int _ _) rfl ih
      refine ⟨byteCells str, hrel _, ?_, fun k hkm => ?_⟩
      · rw [hlen]
        exact ⟨hk, fun _ => rfl, firstCells_string str w, firstCells_string str w.drew, by rw [byteCells_length, Nat.mul_one], fun u hu => by obtain ⟨_, _, rfl⟩ := List.mem_map.1 hu; rfl⟩
      · rw [Nat.mul_one]
        simp only [Builtin.firstCells, Sem.run_pure]
        congr 1
        apply Array.ext'
        simp [byteCells, List.map_take]
    · cases h
  · cases h
    refine ⟨[], .nil, ⟨hk, fun _ => rfl, run_firstCells_none w size 0 0 0, run_firstCells_none w.drew size 0 0 0, by simp, fun _ h => by cases h⟩, fun k hkm => ?_⟩
    simp [Builtin.firstCells]
  · rename_i cs n tk g o cap vs hl hi hn hcm htk
    split at h
    · rename_i hlen
      cases h
      exact fin (by rw [← hl.length, hlen]) (imm_reads hI hi) hl rfl rfl
    · cases h
  · rename_i zz b o n g cap L hrho hlim hn hcap hcm
    split at h
    · rename_i z cs hb
      split at h
      · rename_i hcond
        cases h
        obtain ⟨g', vs, cur, E, q1, _, q3, _, _, _, q7⟩ := hS.cells hb (hS.resF hrho)
        rw [hrho] at q1
        cases q1
        have hlen : ((vs.drop o).take (m * size)).length = m * size := by rw [List.length_take, List.length_drop, ← q3.length]; omega
        exact fin hlen (fun j u hu => by
          rw [addr_add]
          rw [List.getElem?_take] at hu
          split at hu
          · rw [List.getElem?_drop] at hu; exact q7 _ _ hu
          · cases hu) ((q3.drop o).take _) rfl rfl
      · cases h
    · cases h

theorem fits_le {n bytes : Nat} (h : fits n bytes = true) : n * bytes ≤ 140737488355328 ∧ n ≤ maxLen ∧ (n : Int) ≤ 9223372036854775807 := by
  simp only [fits, Bool.and_eq_true, decide_eq_true_eq] at h
  refine ⟨h.1, ?_, by omega⟩
  unfold maxLen
  omega

section
variable {t tx el ty : TypeId} {i : TypeInfo} {z : Value}

/-- Room: the cells are written behind the length. -/
theorem append_room_at (ht : P.underlying t = some (.slice el)) (hi : P.info? el = some i) {y' : Value} {m : Nat} {us : List Value} (hs : Src P i.size tx y' m us w) {g o n cap : Nat} {cur : Array Value} {E : TypeId}
    (hg : w.heap[g]? = some (.cells cur E (0, 0))) (hfit : o + n * i.size + us.length ≤ cur.size) (hroom : n + m ≤ cap) :
    (Builtin.append_ #[t, tx] ty #[.slice (some ⟨g, o, none⟩) n cap, y']).run P w =
      .ok (.slice (some ⟨g, o, none⟩) (n + m) cap) (w.setRow g (cur.toList.take (o + n * i.size) ++ us ++ cur.toList.drop (o + n * i.size + us.length)).toArray) := by
  have hst := run_storeCells_at P g (o + n * i.size) E us 0 cur w hg (by simpa using hfit) hs.one
  simp only [Nat.add_zero] at hst
  rcases hs.kind with ⟨e', hk⟩ | hk <;> simp [Builtin.append_, run_underlying ht, run_underlying hk, sizeOf, typeInfo, hi, hs.len, hroom, hs.cells, addr_add, hst]
/-- Nothing is added, and there is a block. -/
theorem append_nothing (ht : P.underlying t = some (.slice el)) (hi : P.info? el = some i) {y' : Value} {us : List Value} (hs : Src P i.size tx y' 0 us w) {A : Option Addr} {n cap : Nat} (hroom : n ≤ cap) :
    (Builtin.append_ #[t, tx] ty #[.slice A n cap, y']).run P w = .ok (.slice A n cap) w := by
  have hu : us = [] := List.eq_nil_of_length_eq_zero (by rw [hs.newsLen]; simp)
  subst hu
  cases A <;> rcases hs.kind with ⟨e', hk⟩ | hk <;> simp [Builtin.append_, run_underlying ht, run_underlying hk, sizeOf, typeInfo, hi, hs.len, hroom, hs.cells, storeCells]

theorem call_run {o : Oper} {b : Builtin} {args : Array Operand} {ts : Array TypeId} {X : Sem Value} {v' : Value} {w' : World} (heq : o.op = .call { callee := .builtin b, args := args, argTypes := ts })
    (hb : builtin b ts o.type (args.map fun | .const _ => true | _ => false) (args.map a.eval) = (do pure (Next.value (← X)))) (h : X.run P w = .ok v' w') : (execOp a.eval o).run P w = .ok (.value v') w' := by
  simp only [execOp, heq]
  show (builtin b ts o.type (args.map fun | .const _ => true | _ => false) (args.map a.eval)).run P w = _
  rw [hb]
  exact exec_v h

theorem app_heap {o : Oper} {args : Array Operand} {ts : Array TypeId} {x y : Operand} {x' y' : Opd} {v : AV} {s' : St} {hp : Bool}
    (heq : o.op = .call { callee := .builtin .append, args := args, argTypes := ts }) (ha : args.toList = [x, y]) (hts : ts.toList = [t, tx])
    (ht : P.underlying t = some (.slice el)) (hk : (∃ e', P.underlying tx = some (.slice e')) ∨ P.underlying tx = some .string) (hi : P.info? el = some i) (hz : i.zero = some z) (hzs : z.cells.size = i.size) (hpos : 0 < i.size)
    (h1 : cOpd x = some x') (h2 : cOpd y = some y') (hE : RelE G gl e a) (hS : RelS G w0 s w)
    (h : evW gl e s (.app hp i.size i.bytes x' y') = some (v, s')) : OpOk P G w0 w a o v s' := by
  have ea : args = #[x, y] := by rw [← Array.toArray_toList (xs := args), ha]
  have et : ts = #[t, tx] := by rw [← Array.toArray_toList (xs := ts), hts]
  subst ea; subst et
  have run : ∀ {v' : Value} {w' : World}, (Builtin.append_ #[t, tx] o.type #[a.eval x, a.eval y]).run P w = .ok v' w' → (execOp a.eval o).run P w = .ok (.value v') w' := by
    intro v' w' hr
    refine call_run heq (X := Builtin.append_ #[t, tx] o.type #[a.eval x, a.eval y]) ?_ hr
    simp [builtin]
  simp only [evW] at h
  split at h
  · rename_i news m hnews
    obtain ⟨us, hu, hs, _⟩ := newsOf_sound (P := P) (tx := tx) hnews (hE.opd h2) hS hk
    have hul : us.length = m * i.size := hs.newsLen
    have hnl : news.length = m * i.size := by rw [hu.length, hul]
    have hr := hE.opd h1
    -- a new row, behind a draw
    have grow : ∀ {base : Option Addr} {n cap : Nat} {olds : List Value}, a.eval x = .slice base n cap → olds.length = n * i.size → (Builtin.firstCells i.size n (.slice base n cap)).run P w.drew = .ok olds.toArray w.drew → cap < n + m → fits (n + m) i.bytes = true →
        ∃ (cur : Array Value) (cap' : Nat), (execOp a.eval o).run P w = .ok (.value (.slice (some ⟨w.heap.size, 0, none⟩) (n + m) cap')) (w.drew.alloc (.cells cur el)) ∧ cur.toList.take (olds ++ us).length = olds ++ us ∧ cur.size = cap' * i.size ∧ n + m ≤ cap' ∧ cap' ≤ maxLen := by
      intro base n cap olds hx hol hold hcap hf
      obtain ⟨f1, f2, f3⟩ := fits_le hf
      have hgrow := run_append_grow_src (P := P) w t tx o.type el i z ht hi hz base n cap olds hold (a.eval y) m us hs hcap (by simpa using f3) (growslice_fits hcap f1)
      have hge := grownCap_ge w (n + m) cap el
      have hcm := grownCap_le_maxLen w (n + m) cap el f2
      refine ⟨_, _, run (by rw [hx]; exact hgrow), by simp only [Array.toList_append, List.append_assoc]; rw [← List.append_assoc]; exact List.take_left, ?_, hge, hcm⟩
      simp only [Array.size_append, List.size_toArray, List.length_append, size_zeroCells, hzs, hol, hul, ← Nat.add_mul]
      congr 1
      omega
    split at h
    · -- the heap's own make
      unfold appH at h
      generalize hv : a.eval x = xv at hr
      generalize opd gl e x' = xa at h hr
      cases hr <;> (try simp only at h) <;> try (cases h; done)
      · split at h
        · cases h
        · rename_i hm
          split at h
          · rename_i hf
            cases h
            obtain ⟨cur, cap', e1, e2, e3, e4, e5⟩ := grow (olds := []) hv (by simp) (run_firstCells_none w.drew _ _ _ _) (by omega) (by simpa using hf)
            simp only [Nat.zero_add, List.nil_append] at e1 e2 e4
            have hcl : us.length ≤ cur.size := by rw [e3, hul]; exact Nat.mul_le_mul_right _ e4
            obtain ⟨G', q1, q2, q3, q4⟩ := hS.drew.newCells i.size news cur el us hu (by rw [hu.length]; exact hcl) (by rw [hu.length]; exact e2)
            exact OpOk.val q1 e1 (.hs _ _ _ _ _ _ _ q2 q3 e4 (by rw [e3]; omega) e5) q4
          · cases h
      · rename_i zz b off n g cap L hrho hlim hcn hcap hcm
        split at h
        · rename_i z0 cs hb
          split at h
          · rename_i hcond
            obtain ⟨c1, c2, c3, c4⟩ := hcond
            cases h
            subst c1; subst c2
            obtain ⟨g', cur, E, vs, p1, p2, p3, p4, p5, p6, p7⟩ := hS.rehome hb (hS.resF hrho)
            rw [hrho] at p1
            cases p1
            rw [hlim] at p2
            cases p2
            have hvl : vs.length = n * i.size := by rw [← p4.length, c3]
            by_cases hroom : n + m ≤ cap
            · have hlen2 : (n + m) * i.size ≤ cap * i.size := Nat.mul_le_mul_right _ hroom
              have hfit : 0 + n * i.size + us.length ≤ cur.size := by rw [hul, Nat.zero_add, ← Nat.add_mul]; omega
              have hcs' : (cs ++ news).length = (n + m) * i.size := by rw [List.length_append, c3, hnl, Nat.add_mul]
              have htk : cur.toList.take (0 + n * i.size) = vs := by rw [Nat.zero_add, ← c3]; exact p6
              have hsz : (cur.toList.take (0 + n * i.size) ++ us ++ cur.toList.drop (0 + n * i.size + us.length)).toArray.size = cur.size := by
                simp only [List.size_toArray, List.length_append, List.length_take, List.length_drop, Array.length_toList]; omega
              obtain ⟨G', q1, q2, q3, q4⟩ := p7 (cs ++ news) (vs ++ us) (cur.toList.take (0 + n * i.size) ++ us ++ cur.toList.drop (0 + n * i.size + us.length)).toArray (p4.append hu) hsz (by rw [hcs']; omega)
                (by rw [htk, (p4.append hu).length]; exact List.take_left)
              exact OpOk.val q1 (run (by rw [hv]; exact append_room_at ht hi hs p3 hfit hroom)) (.hs _ _ _ _ _ _ _ q2 q3 hroom (by omega) hcm) q4
            · have hreads : ∀ j u, vs[j]? = some u → w.drew.cell? ((⟨g, 0, none⟩ : Addr).add j) = some u := by
                intro j u hu'
                rw [addr_add, Nat.zero_add]
                rw [← p6, List.getElem?_take] at hu'
                split at hu'
                · show w.cell? ⟨g, j, none⟩ = some u
                  simp only [World.cell?, p3]; simpa using hu'
                · cases hu'
              obtain ⟨cur2, cap', e1, e2, e3, e4, e5⟩ := grow (olds := vs) hv hvl (run_firstCells_some w.drew i.size n _ n cap vs hvl hreads) (by omega) c4
              have hcl : (cs ++ news).length ≤ cur2.size := by rw [List.length_append, c3, hnl, ← Nat.add_mul, e3]; exact Nat.mul_le_mul_right _ e4
              obtain ⟨G', q1, q2, q3, q4⟩ := (hS.drew.kill hb).newCells i.size (cs ++ news) cur2 el (vs ++ us) (p4.append hu) hcl (by rw [(p4.append hu).length]; exact e2)
              exact OpOk.val q1 e1 (.hs _ _ _ _ _ _ _ q2 q3 e4 (by rw [e3]; omega) e5) q4
          · cases h
        · cases h
    · -- lists with tickets
      unfold appS at h
      generalize hv : a.eval x = xv at hr
      generalize opd gl e x' = xa at h hr
      cases hr <;> (try simp only at h) <;> try (cases h; done)
      · -- nil
        split at h
        · rename_i hm
          cases h
          subst hm
          exact OpOk.val (Gh.le_refl G) (run (by rw [hv]; exact append_nothing ht hi hs (Nat.le_refl 0))) .nils hS
        · rename_i hm
          split at h
          · rename_i hf
            cases h
            obtain ⟨cur, cap', e1, e2, e3, e4, e5⟩ := grow (olds := []) hv (by simp) (run_firstCells_none w.drew _ _ _ _) (by omega) (by simpa using hf)
            simp only [Nat.zero_add, List.nil_append] at e1 e2 e4
            obtain ⟨G', q1, q2, q3⟩ := hS.drew.newSl i.size m cap' news cur el us hu (by rw [hu.length]; exact e2) hnl e4 e5 (by rw [e3]; exact Nat.le_refl _)
            exact OpOk.val q1 e1 q2 q3
          · cases h
      · rename_i cs n tk g off cap vs hl hii hcn hcm htk
        rcases tk with _ | ⟨b, u, zz⟩
        · cases h
        · simp only at h
          split at h
          · rename_i z0 v0 hb
            split at h
            · rename_i hcond
              obtain ⟨c1, c2, c3, c4⟩ := hcond
              cases h
              subst c1; subst c2
              have hrel : RelV G (.sl cs n (some (b, u, zz))) (.slice (some ⟨g, off, none⟩) n cap) := .sl _ _ _ _ _ _ vs hl hii hcn hcm htk
              by_cases hroom : n + m ≤ cap
              · by_cases hm : m = 0
                · subst hm
                  have hn0 : news = [] := List.eq_nil_of_length_eq_zero (by rw [hnl]; simp)
                  subst hn0
                  obtain ⟨G', q1, q2, q3⟩ := hS.appNone hrel hb
                  have q2' : RelV G' (.sl (cs ++ []) (n + 0) (some (b, u + 1, i.size))) (.slice (some ⟨g, off, none⟩) n cap) := by simpa using q2
                  exact OpOk.val q1 (run (by rw [hv]; exact append_nothing ht hi hs hcn)) q2' q3
                · obtain ⟨cur, E, p1, p2, G', q1, q2, q3⟩ := hS.appRoom hrel hb c3 hu hnl (by omega) hroom
                  exact OpOk.val q1 (run (by rw [hv]; exact append_room_at ht hi hs p1 p2 hroom)) q2 q3
              · have hvl : vs.length = n * i.size := by rw [← hl.length, c3]
                obtain ⟨cur, cap', e1, e2, e3, e4, e5⟩ := grow (olds := vs) hv hvl (run_firstCells_some w.drew i.size n _ n cap vs hvl (by simpa using imm_reads hS.immW hii)) (by omega) c4
                obtain ⟨G', q1, q2, q3⟩ := hS.drew.appGrow (N := n + m) (cap := cap') (cs := cs ++ news) cur el (vs ++ us) (hS.resSl hrel) hb (hl.append hu) (by rw [(hl.append hu).length]; exact e2) (by rw [List.length_append, c3, hnl, Nat.add_mul]) e4 e5 (by rw [e3]; exact Nat.le_refl _)
                exact OpOk.val q1 e1 q2 q3
            · cases h
          · cases h
  · cases h
end

/-! ### Other makes -/
theorem bsl_heap {o : Oper} {t el : TypeId} {len size : Nat} {parts : Array (Nat × Operand)} {zs : List AV} {ps : List (Nat × Nat × Opd)} {hp : Bool} {v : AV} {s' : St}
    (heq : o.op = .buildSlice t len parts) (hu : P.underlying t = some (.slice el)) (hs : szOf P el = some size) (hz : zeroCells' P el = some zs) (hps : cParts (fun i => some (i * size, size)) parts.toList = some ps)
    (hlen : len * size ≤ 2 ^ 24) (hpos : 0 < size) (hzl : zs.length = size) (hE : RelE G gl e a) (hS : RelS G w0 s w)
    (h : evW gl e s (.bsl hp size len (List.replicate len zs).flatten ps) = some (v, s')) : OpOk P G w0 w a o v s' := by
  unfold zeroCells' zeroOf at hz
  obtain ⟨zv, hz1, rfl⟩ := Option.map_eq_some_iff.1 hz
  unfold szOf at hs
  obtain ⟨ie, hie, rfl⟩ := Option.map_eq_some_iff.1 hs
  split at hz1
  · rename_i z hzz
    obtain ⟨it, hit, hz2⟩ := Option.bind_eq_some_iff.1 hzz
    rw [hie] at hit
    cases hit
    have hzr : RelL G (zcells zv) z.cells.toList := toAVa_cells hz1
    have hzs : z.cells.size = ie.size := by have := hzr.length; simp at this; omega
    have hrow : ((Array.range (len * ie.size)).map (z.cells[· % z.cells.size]!)).toList = (List.replicate len z.cells.toList).flatten := by rw [← hzs]; exact rep_cells z.cells len (by omega)
    simp only [evW] at h
    split at h
    · rename_i cs hcs
      obtain ⟨V', e1, e2, e3⟩ := fill_sound hE _ parts.toList ps _ cs ((Array.range (len * ie.size)).map (z.cells[· % z.cells.size]!)) hps hcs (by rw [hrow]; exact rep_rel hzr len)
      have hsz : V'.size = len * ie.size := by rw [e3]; simp
      have hcl : cs.length = len * ie.size := by have := e2.length; simp at this; omega
      have eparts : (parts.map fun (x : Nat × Operand) => (x.1, a.eval x.2)).toList = parts.toList.map fun x => (x.1, a.eval x.2) := by simp
      have hrun : (Instr.buildSlice t len (parts.map fun (i, x) => (i, a.eval x))).run P w = .ok (.slice (some ⟨w.heap.size, 0, none⟩) len len) (w.alloc (.cells V' el)) := by
        by_cases h0 : len * ie.size = 0
        · have hf : Instr.fill (fun i => some (i * ie.size, ie.size)) #[] (parts.toList.map fun x => (x.1, a.eval x.2)) = some V' := by
            rw [← e1]; congr 1; simp [h0]
          have hf' : Instr.fill (fun i => some (i * ie.size, ie.size)) #[] (parts.map fun (x : Nat × Operand) => (x.1, a.eval x.2)).toList = some V' := by rw [eparts]; exact hf
          have hl0 : len = 0 ∨ ie.size = 0 := Nat.mul_eq_zero.1 h0
          simp [Instr.buildSlice, run_underlying hu, sizeOf, typeInfo, hie, h0, Array.range_zero', hf, newRow]
        · exact run_buildSlice w t el len _ V' ie z hu hie hz2 (by omega) h0 (by rw [eparts]; exact e1)
      have hmax : len ≤ maxLen := by
        have : len ≤ len * ie.size := Nat.le_mul_of_pos_right len hpos
        unfold maxLen; omega
      split at h
      · cases h
        obtain ⟨G', q1, q2, q3, q4⟩ := hS.newCells ie.size cs V' el _ e2 (by omega) (by rw [hcl, ← hsz]; simp [← Array.length_toList])
        exact OpOk.val q1 (by simp only [execOp, heq]; exact exec_v hrun) (.hs _ _ _ _ _ _ _ q2 q3 (Nat.le_refl _) (by omega) hmax) q4
      · cases h
        obtain ⟨G', q1, q2, q3⟩ := hS.newSl ie.size len len cs V' el _ e2 (by rw [hcl, ← hsz]; simp [← Array.length_toList]) hcl (Nat.le_refl _) hmax (by omega)
        exact OpOk.val q1 (by simp only [execOp, heq]; exact exec_v hrun) q2 q3
    · cases h
  · cases hz1

theorem mks_heap {o : Oper} {t el : TypeId} {l c : Operand} {l' c' : Opd} {i : TypeInfo} {zs : List AV} {v : AV} {s' : St}
    (heq : o.op = .makeSlice t l c) (hu : P.underlying t = some (.slice el)) (hi : P.info? el = some i) (hz : zeroCells' P el = some zs) (hpos : 0 < i.size) (hzl : zs.length = i.size)
    (h1 : cOpd l = some l') (h2 : cOpd c = some c') (hE : RelE G gl e a) (hS : RelS G w0 s w)
    (h : evW gl e s (.mks i.size i.bytes zs l' c') = some (v, s')) : OpOk P G w0 w a o v s' := by
  unfold zeroCells' zeroOf at hz
  obtain ⟨zv, hz1, rfl⟩ := Option.map_eq_some_iff.1 hz
  split at hz1
  · rename_i z hzz
    obtain ⟨it, hit, hz2⟩ := Option.bind_eq_some_iff.1 hzz
    rw [hi] at hit
    cases hit
    have hzr : RelL G (zcells zv) z.cells.toList := toAVa_cells hz1
    have hzs : z.cells.size = i.size := by have := hzr.length; simp at this; omega
    simp only [evW] at h
    have hrl := hE.opd h1
    have hrc := hE.opd h2
    generalize hvl : a.eval l = lv at hrl
    generalize hvc : a.eval c = cv at hrc
    generalize opd gl e l' = la at h hrl
    generalize opd gl e c' = ca at h hrc
    cases hrl <;> (try simp only at h) <;> try (cases h; done)
    rename_i kl nl
    cases kl <;> (try simp only at h) <;> try (cases h; done)
    cases hrc <;> (try simp only at h) <;> try (cases h; done)
    rename_i kc nc
    cases kc <;> (try simp only at h) <;> try (cases h; done)
    split at h
    · rename_i hcond
      obtain ⟨c1, c2, c3⟩ := hcond
      subst c1
      cases h
      obtain ⟨f1, f2, f3⟩ := fits_le c3
      have hb : (i.bytes : Int) * nl ≤ 281474976710656 := by
        have h4 : ((nl.toNat * i.bytes : Nat) : Int) ≤ 140737488355328 := by generalize nl.toNat * i.bytes = q at f1 ⊢; omega
        rw [Int.natCast_mul, Int.toNat_of_nonneg c2, Int.mul_comm] at h4
        omega
      have hrun := run_make (P := P) w t el i z hu hi hz2 .i64 .i64 nl nl c2 (Int.le_refl _) hb (by omega)
      have hrow : (madeCells z.cells (nl.toNat * i.size)).toList = (List.replicate nl.toNat z.cells.toList).flatten := by unfold madeCells; rw [← hzs]; exact rep_cells z.cells _ (by omega)
      have hsz : (madeCells z.cells (nl.toNat * i.size)).size = nl.toNat * i.size := size_madeCells _ _
      have hrel := rep_rel hzr nl.toNat
      have hcl : (List.replicate nl.toNat (zcells zv)).flatten.length = nl.toNat * i.size := by rw [hrel.length, ← hrow, Array.length_toList, hsz]
      obtain ⟨G', q1, q2, q3, q4⟩ := hS.newCells i.size _ (madeCells z.cells (nl.toNat * i.size)) el _ hrel (by omega) (by rw [hcl, ← hrow]; apply List.take_of_length_le; rw [Array.length_toList, hsz]; exact Nat.le_refl _)
      exact OpOk.val q1 (by simp only [execOp, heq, hvl, hvc]; exact exec_v hrun) (.hs _ _ _ _ _ _ _ q2 q3 (Nat.le_refl _) (by omega) f2) q4
    · cases h
  · cases hz1

theorem cpy_heap {o : Oper} {args : Array Operand} {ts : Array TypeId} {t tx el : TypeId} {x y : Operand} {x' y' : Opd} {size : Nat} {v : AV} {s' : St}
    (heq : o.op = .call { callee := .builtin .copy, args := args, argTypes := ts }) (ha : args.toList = [x, y]) (hts : ts.toList = [t, tx])
    (ht : P.underlying t = some (.slice el)) (hk : (∃ e', P.underlying tx = some (.slice e')) ∨ P.underlying tx = some .string) (hsz : szOf P el = some size) (hpos : 0 < size) (h1 : cOpd x = some x') (h2 : cOpd y = some y') (hE : RelE G gl e a) (hS : RelS G w0 s w)
    (h : evW gl e s (.cpy size x' y') = some (v, s')) : OpOk P G w0 w a o v s' := by
  have ea : args = #[x, y] := by rw [← Array.toArray_toList (xs := args), ha]
  have et : ts = #[t, tx] := by rw [← Array.toArray_toList (xs := ts), hts]
  subst ea; subst et
  have run : ∀ {v' : Value} {w' : World}, (Builtin.copy_ #[t, tx] o.type #[a.eval x, a.eval y]).run P w = .ok v' w' → (execOp a.eval o).run P w = .ok (.value v') w' := by
    intro v' w' hr
    refine call_run heq (X := Builtin.copy_ #[t, tx] o.type #[a.eval x, a.eval y]) ?_ hr
    simp [builtin]
  simp only [evW] at h
  have hr := hE.opd h1
  have hry := hE.opd h2
  generalize hv : a.eval x = xv at hr
  generalize opd gl e x' = xa at h hr
  cases hr <;> (try simp only at h) <;> try (cases h; done)
  rename_i zz b off n g cap L hrho hlim hcn hcap hcm
  split at h
  · rename_i news m z cs hnews hb
    split at h
    · rename_i hz
      split at h
      · rename_i cs' hst
        cases h
        subst hz
        obtain ⟨us, hu, hs, hfirst⟩ := newsOf_sound (P := P) (tx := tx) hnews hry hS hk
        obtain ⟨g1, vs, cur, E, q1, _, q3, q4, q5, q6, q7⟩ := hS.cells hb (hS.resF hrho)
        rw [hrho] at q1
        cases q1
        unfold storeL at hst
        split at hst
        · rename_i hfit
          cases hst
          have hun := hu.take (min m n * z)
          have hf : (Builtin.firstCells z (Nat.min m n) (a.eval y)).run P w = .ok (us.take (min m n * z)).toArray w := hfirst (min m n) (Nat.min_le_left _ _)
          generalize us.take (min m n * z) = U at hun hf
          generalize news.take (min m n * z) = N at hun hfit
          obtain ⟨g2, cur2, E2, p1, p2, p3, p4⟩ := hS.setCells hb (hS.resF hrho) (fillL_rel off q3 hun) (fillL_length cs off _)
          rw [hrho] at p1
          cases p1
          rw [q4] at p2
          cases p2
          have hul : U.length = N.length := hun.length.symm
          have hst2 := run_storeCells_at P g off E U 0 cur w q4 (by rw [hul]; omega) (hun.mem)
          simp only [Nat.add_zero] at hst2
          refine OpOk.val (Gh.le_refl G) (v' := .int .i64 (min m n : Nat)) ?_ (.int _ _) (p4 (cur.toList.take off ++ U ++ cur.toList.drop (off + U.length)).toArray ?_ ?_)
          · refine run ?_
            rw [hv]
            have hlen := hs.len
            simp only [Builtin.copy_, List.getElem?_toArray, List.getElem?_cons_zero, List.getElem?_cons_succ, Sem.run_bind, run_underlying ht, Result.andThen_ok, hlen, szOf_run hsz, hf]
            simp only [hst2, Result.andThen_ok, Sem.run_pure, goInt]
          · simp only [List.size_toArray, List.length_append, List.length_take, List.length_drop, Array.length_toList] at hul ⊢
            omega
          · rw [← q6]
            exact take_mid _ _ _ _ (by rw [hul]; exact hfit) (by simpa using q5)
        · cases hst
      · cases h
    · cases h
  · cases h

theorem s2b_heap {o : Oper} {src dst : TypeId} {x : Operand} {y : Opd} {v : AV} {s' : St} (heq : o.op = .convert src dst x) (h1 : cOpd x = some y) (hcv : ConvAt P src dst .s2b) (hE : RelE G gl e a) (hS : RelS G w0 s w)
    (h : evW gl e s (.conv .s2b y) = some (v, s')) : OpOk P G w0 w a o v s' := by
  simp only [evW] at h
  have hr := hE.opd h1
  generalize hv : a.eval x = xv at hr
  generalize opd gl e y = yv at h hr
  cases hr <;> (try simp only at h) <;> try (cases h; done)
  rename_i str
  split at h
  · rename_i hsmall
    cases h
    obtain ⟨c1, el, c2, c3⟩ := hcv
    have hlen : str.data.toList.length = str.size := by simp
    have hsz : str.size ≤ maxLen := by unfold maxLen; omega
    have hrun := run_bytes_of_string (P := P) w src dst el str c1 c2 c3
    have hrel : ∀ l : List UInt8, RelL G (bytesAV l) (l.map fun b => Value.int .u8 b.toNat) := by
      intro l
      induction l with
      | nil => exact .nil
      | cons b bs ih => exact .cons _ _ _ _ (.int _ _) rfl ih
    have hbl : (bytesAV str.data.toList).length = str.data.toList.length := by simp [bytesAV]
    obtain ⟨G', q1, q2, q3⟩ := hS.drew.newImm (bytesAV str.data.toList) (bytesRow str (grownCap w str.size 0 el)) el _ _ (hrel _) (by
      rw [hbl]
      simp only [bytesRow, Array.toList_append, Array.toList_map]
      rw [List.take_append_of_le_length (by simp)]
      apply List.take_of_length_le
      simp)
    rw [hlen]
    exact OpOk.val q1 (by simp only [execOp, heq, hv]; exact exec_v hrun) (.sl _ _ _ _ _ _ _ ((hrel _).mono q1) (fun j u hu => by rw [Nat.zero_add]; exact q2 j u hu) (grownCap_ge _ _ _ _) (grownCap_le_maxLen _ _ _ _ hsz) trivial) q3
  · cases h

theorem mark_heap {o : Oper} {src dst : TypeId} {x : Operand} {y : Opd} {v : AV} {s' : St} (heq : o.op = .convert src dst x) (h1 : cOpd x = some y) (hcv : ConvAt P src dst .mark) (hE : RelE G gl e a) (hS : RelS G w0 s w)
    (h : evW gl e s (.conv .mark y) = some (v, s')) : OpOk P G w0 w a o v s' := by
  simp only [evW] at h
  have hr := hE.opd h1
  generalize hv : a.eval x = xv at hr
  generalize opd gl e y = yv at h hr
  cases hr <;> (try simp only at h) <;> try (cases h; done)
  rename_i cs n tk g off cap vs hl hi hn hcm htk
  rcases tk with _ | ⟨b, u, zz⟩
  · cases h
  · simp only at h
    split at h
    · rename_i z0 v0 hb
      split at h
      · rename_i hv0
        subst hv0
        cases h
        obtain ⟨hsd, el, c2, c3⟩ := hcv
        subst hsd
        obtain ⟨k, T, t1, t2, t3, t4, t5, t6⟩ := htk
        obtain ⟨pl, hP⟩ := hS
        obtain ⟨hbase, T', cur, E, p1, p2, p3, p4, p5, p6, p7, p8⟩ := hP.at_ b _ hb ⟨by simp, hP.resT t1⟩
        rw [t1] at p1
        cases p1
        rw [← p2, t3] at p6
        have hlt : g < w.heap.size := (Array.getElem?_eq_some_iff.1 p6).1
        have hsh : w.shape? g = some (E, cur.size) := by simp [World.shape?, p6]
        have hgv : w.heap[g] = .cells cur E (0, 0) := (Array.getElem?_eq_some_iff.1 p6).2
        have hfz : (w.freeze ⟨g, cur.size, none⟩ 1).heap = w.heap.setIfInBounds g (.cells cur E (cur.size, cur.size + 1)) := by
          unfold World.freeze
          rw [if_neg (by decide)]
          apply Array.ext_getElem?
          intro j
          rw [Array.getElem?_modify, Array.getElem?_setIfInBounds]
          by_cases hj : g = j
          · subst hj
            simp [hlt, hgv]
          · simp [hj]
        have hrun : (convert src src (.slice (some ⟨g, off, none⟩) n cap)).run P w = .ok (.slice (some ⟨g, off, none⟩) n cap) (w.freeze ⟨g, cur.size, none⟩ 1) := by
          simp [convert, run_underlying c2, run_underlying c3, markStringish, hsh]
        have hos : (w.freeze ⟨g, cur.size, none⟩ 1).os = w.os := by unfold World.freeze; rw [if_neg (by decide)]
        have htp : (w.freeze ⟨g, cur.size, none⟩ 1).tape = w.tape := by unfold World.freeze; rw [if_neg (by decide)]
        have hout : (w.freeze ⟨g, cur.size, none⟩ 1).output = w.output := by unfold World.freeze; rw [if_neg (by decide)]
        exact OpOk.val (Gh.le_refl G) (by simp only [execOp, heq, hv]; exact exec_v hrun) (.sl _ _ _ _ _ _ _ hl hi hn hcm trivial)
          (RelS.markKill ⟨pl, hP⟩ hb t1 cur E (cur.size, cur.size + 1) (by rw [t3]; exact p6) _ (by rw [t3]; exact hfz) hos htp hout)
      · cases h
    · cases h

theorem rng_heap {o : Oper} {t : TypeId} {x : Operand} {y : Opd} {v : AV} {s' : St} (heq : o.op = .range t x) (hu : P.underlying t = some .string) (h1 : cOpd x = some y) (hE : RelE G gl e a) (hS : RelS G w0 s w)
    (h : evW gl e s (.rng y) = some (v, s')) : OpOk P G w0 w a o v s' := by
  simp only [evW] at h
  have hr := hE.opd h1
  generalize hv : a.eval x = xv at hr
  generalize opd gl e y = yv at h hr
  cases hr <;> (try simp only at h) <;> try (cases h; done)
  rename_i str
  cases h
  obtain ⟨G', q1, q2, q3⟩ := hS.newIter str
  refine OpOk.val q1 (v' := .pointer (some ⟨w.heap.size, 0, none⟩)) ?_ (.ptr _ _ _ q2) q3
  simp only [execOp, heq, hv]
  refine exec_v ?_
  simp [Instr.range, run_underlying hu]

theorem nxt_heap {o : Oper} {x : Operand} {y : Opd} {v : AV} {s' : St} (heq : o.op = .next x true) (h1 : cOpd x = some y) (hE : RelE G gl e a) (hS : RelS G w0 s w)
    (h : evW gl e s (.nxt y) = some (v, s')) : OpOk P G w0 w a o v s' := by
  simp only [evW] at h
  have hr := hE.opd h1
  generalize hv : a.eval x = xv at hr
  generalize opd gl e y = yv at h hr
  cases hr <;> (try simp only at h) <;> try (cases h; done)
  rename_i b off g hrho
  cases off with
  | succ k => simp only at h; cases h
  | zero =>
    simp only at h
    split at h
    · rename_i l p hb
      obtain ⟨g', str, q1, q2, q3, q4⟩ := hS.setIter hb (hS.resF hrho)
      rw [hrho] at q1
      cases q1
      subst q2
      have hlen : str.data.toList.length = str.size := by simp
      split at h
      · rename_i hp
        cases h
        have hp' : p < str.size := by rw [← hlen]; exact hp
        have hmk : (⟨str.data.toList.toArray⟩ : ByteArray) = str := by simp
        rw [hmk]
        refine OpOk.val (Gh.le_refl G) (v' := .tuple #[.bool true, .int .i64 p, .int .i32 (Utf8.decode str p).1]) ?_ ?_ (q4 (p + (Utf8.decode str p).2))
        · simp only [execOp, heq, hv]
          refine exec_v ?_
          simp [Instr.next, getObj, setObj, Sem.run, q3, hp', goInt]
        · exact .tup _ _ (.cons _ _ _ _ (.bool _) (.cons _ _ _ _ (.int _ _) (.cons _ _ _ _ (.int _ _) .nil)))
      · rename_i hp
        cases h
        have hp' : ¬ p < str.size := by rw [← hlen]; exact hp
        refine OpOk.val (Gh.le_refl G) (v' := .tuple #[.bool false]) ?_ (.tup _ _ (.cons _ _ _ _ (.bool _) .nil)) hS
        simp only [execOp, heq, hv]
        refine exec_v ?_
        simp [Instr.next, getObj, Sem.run, q3, hp']
    · cases h

end
end Go.Ab
