/- One operation that hangs on its operands alone answers as the machine's. No conditions. -/
import Derived.Test.YtbeimfhodgmjhaaDoorAb7
set_option linter.unusedSimpArgs false
set_option linter.unusedVariables false
namespace Go.Ab
open Go

section
variable {P : Program} {G : Gh} {w : World} {gl : Nat → AV} {e : Env} {a : Act}

theorem exec_v {X : Sem Value} {v' : Value} {w' : World} (h : X.run P w = .ok v' w') : (do pure (Next.value (← X)) : Sem Next).run P w = .ok (.value v') w' := by simp [h]

theorem cOpd_map {x : Operand} {f : Opd → MOp} {m : MOp} (h : (cOpd x).map f = some m) : ∃ y, cOpd x = some y ∧ m = f y := by
  obtain ⟨y, h1, h2⟩ := Option.map_eq_some_iff.1 h; exact ⟨y, h1, h2.symm⟩
theorem cOpdO_rel (hE : RelE G gl e a) {x : Option Operand} {m : Option Opd} (h : cOpdO x = some m) : RelO G (m.map (opd gl e)) (x.map a.eval) := by
  cases x with
  | none => simp only [cOpdO] at h; cases h; exact .none
  | some x =>
    simp only [cOpdO] at h
    obtain ⟨y, h1, rfl⟩ := Option.map_eq_some_iff.1 h
    exact .some _ _ (hE.opd h1)

theorem bin_run {op : BinOp} {t : TypeId} {ox oy : Operand} {x y v : AV} {x' y' : Value} (h : binV op x y = some v) (hx : RelV G x x') (hy : RelV G y y') :
    ∃ v', (do eqGuard op t ox oy x' y'; binOp op t x' y' : Sem Value).run P w = .ok v' w ∧ RelV G v v' := by
  obtain ⟨v', h1, h2⟩ := binV_sound (P := P) (w := w) t h hx hy
  refine ⟨v', ?_, h2⟩
  have hg : (eqGuard op t ox oy x' y').run P w = .ok () w := by
    cases hx <;> cases hy <;> (try simp only [binV] at h) <;> first
      | (cases h; done)
      | (cases op <;> simp [eqGuard])
  simp [hg, h1]

theorem fieldAt_run {t : TypeId} {fs : Array Field} {f : Nat} {fd : Field} {n : Nat} (hu : P.underlying t = some (.struct fs)) (hf : fs[f]? = some fd) (hs : szOf P fd.type = some (n + 1)) (g o : Nat) :
    (Instr.fieldAt t (.pointer (some ⟨g, o, none⟩)) f).run P w = .ok (.pointer (some ⟨g, o + fd.offset, none⟩)) w := by
  simp [Instr.fieldAt, run_underlying hu, hf, Instr.sureAddr, fieldPlace, szOf_run hs, addr_add]

theorem indexAt_slice {t el : TypeId} {n : Nat} {k : IntKind} {z : Int} {g o len cap : Nat} (hu : P.underlying t = some (.slice el)) (hs : szOf P el = some n) (h0 : 0 ≤ z) (h1 : z < len) :
    (Instr.indexAt t (.slice (some ⟨g, o, none⟩) len cap) (.int k z)).run P w = .ok (.pointer (some ⟨g, o + z.toNat * n, none⟩)) w := by
  simp [Instr.indexAt, asIntOf, run_underlying hu, h0, h1, szOf_run hs, addr_add]
theorem indexAt_array {t el : TypeId} {n : Nat} {k : IntKind} {z : Int} {g o len : Nat} (hu : P.underlying t = some (.array len el)) (hs : szOf P el = some n) (h0 : 0 ≤ z) (h1 : z < len) :
    (Instr.indexAt t (.pointer (some ⟨g, o, none⟩)) (.int k z)).run P w = .ok (.pointer (some ⟨g, o + z.toNat * n, none⟩)) w := by
  simp [Instr.indexAt, Instr.sureAddr, asIntOf, run_underlying hu, h0, h1, szOf_run hs, addr_add]

theorem opP_sound {ht : List TypeId} {o : Oper} {m : MOp} {v : AV} (hc : cOp P (eqOks P) ht o = some m) (hE : RelE G gl e a) (hI : ImmW G w) (h : evP gl e m = some v) :
    ∃ v', (execOp a.eval o).run P w = .ok (.value v') w ∧ RelV G v v' := by
  unfold cOp at hc
  split at hc
  case h_1 x heq =>
    obtain ⟨y, h1, rfl⟩ := cOpd_map hc
    simp only [evP] at h; cases h
    exact ⟨_, by simp only [execOp, heq]; rfl, hE.opd h1⟩
  case h_2 x heq =>
    obtain ⟨y, h1, rfl⟩ := cOpd_map hc
    simp only [evP] at h; cases h
    exact ⟨_, by simp only [execOp, heq]; rfl, hE.opd h1⟩
  case h_3 c x y heq =>
    split at hc <;> cases hc
    rename_i c' x' y' h1 h2 h3
    simp only [evP] at h
    have hcr := hE.opd h1
    generalize hv : a.eval c = cv at hcr
    generalize opd gl e c' = cx at h hcr
    cases hcr <;> (try simp only at h) <;> try (cases h; done)
    rename_i b
    cases b <;> (simp only at h; cases h)
    · exact ⟨_, by simp only [execOp, heq, hv]; rfl, hE.opd h3⟩
    · exact ⟨_, by simp only [execOp, heq, hv]; rfl, hE.opd h2⟩
  case h_4 t heq =>
    obtain ⟨z, _, rfl⟩ := Option.map_eq_some_iff.1 hc
    simp [evP] at h
  case h_5 t x heq =>
    split at hc
    · obtain ⟨y, _, rfl⟩ := cOpd_map hc
      simp [evP] at h
    · cases hc
  case h_6 t parts heq =>
    have eparts : (parts.map fun (x : Nat × Operand) => (x.1, a.eval x.2)).toList = parts.toList.map fun x => (x.1, a.eval x.2) := by simp
    split at hc
    · rename_i fs zs hu hz
      split at hc
      · rename_i places hpl
        split at hc
        · rename_i ps hps
          cases hc
          simp only [evP] at h
          obtain ⟨cells', hf, rfl⟩ := Option.map_eq_some_iff.1 h
          unfold zeroCells' zeroOf at hz
          obtain ⟨zv, hz1, rfl⟩ := Option.map_eq_some_iff.1 hz
          split at hz1
          · rename_i z hzz
            obtain ⟨it, hit, hz2⟩ := Option.bind_eq_some_iff.1 hzz
            obtain ⟨V', e1, e2, _⟩ := fill_sound hE _ parts.toList ps _ cells' z.cells hps hf (toAVa_cells hz1)
            refine ⟨.agg V', ?_, .agg _ _ e2⟩
            simp only [execOp, heq]
            refine exec_v (run_build w t _ V' ?_)
            rw [eparts]
            unfold Program.built
            simp only [hit, hu, hz2, hpl]
            exact e1
          · cases hz1
        · cases hc
      · cases hc
    · rename_i len el zs hu hz
      split at hc
      · rename_i size hsz
        split at hc
        · rename_i ps hps
          cases hc
          simp only [evP] at h
          obtain ⟨cells', hf, rfl⟩ := Option.map_eq_some_iff.1 h
          unfold zeroCells' zeroOf at hz
          obtain ⟨zv, hz1, rfl⟩ := Option.map_eq_some_iff.1 hz
          unfold szOf at hsz
          obtain ⟨ie, hie, rfl⟩ := Option.map_eq_some_iff.1 hsz
          split at hz1
          · rename_i z hzz
            obtain ⟨it, hit, hz2⟩ := Option.bind_eq_some_iff.1 hzz
            obtain ⟨V', e1, e2, _⟩ := fill_sound hE _ parts.toList ps _ cells' z.cells hps hf (toAVa_cells hz1)
            refine ⟨.agg V', ?_, .agg _ _ e2⟩
            simp only [execOp, heq]
            refine exec_v (run_build w t _ V' ?_)
            rw [eparts]
            unfold Program.built
            simp only [hit, hu, hz2, hie]
            exact e1
          · cases hz1
        · cases hc
      · cases hc
    · cases hc
  case h_7 t len parts heq =>
    split at hc
    · split at hc
      · split at hc
        · split at hc
          · cases hc; simp [evP] at h
          · cases hc
        · cases hc
      · cases hc
    · cases hc
  case h_8 t x heq =>
    split at hc
    · rename_i n y hn h1
      cases hc
      simp only [evP] at h
      have hr := hE.opd h1
      generalize hv : a.eval x = xv at hr
      generalize opd gl e y = yv at h hr
      cases hr <;> (try simp only at h) <;> try (cases h; done)
      rename_i cs g o1 vs hl hi
      obtain ⟨v', e1, e2⟩ := loadVar_sound (P := P) (w := w) (o0 := o1) hn h hl (fun j u hu => (hI _ _ _ (hi j u hu)).1)
      exact ⟨v', by simp only [execOp, heq, hv]; exact exec_v (by simpa [Instr.loadAt, Instr.sureAddr] using e1), e2⟩
    · cases hc
  case h_9 t x y heq =>
    split at hc
    · cases hc; simp [evP] at h
    · cases hc
  case h_10 x heq =>
    obtain ⟨y, h1, rfl⟩ := cOpd_map hc
    simp only [evP] at h
    have hr := hE.opd h1
    generalize hv : a.eval x = xv at hr
    generalize opd gl e y = yv at h hr
    cases hr <;> (try simp only at h) <;> try (cases h; done)
    · cases h
      exact ⟨_, by simp only [execOp, heq, hv]; rfl, .ptr _ _ _ ‹_›⟩
    · cases h
      exact ⟨_, by simp only [execOp, heq, hv]; rfl, .rp _ _ _ _ ‹_› ‹_›⟩
  case h_11 op t x y yt heq =>
    split at hc
    · rename_i x' y' h1 h2
      have hx := hE.opd h1
      have hy := hE.opd h2
      have fin : ∀ (q : EqK), (op = .eql ∨ op = .neq) → EqAt P t q → m = .eqv (isNeq op) q x' y' → ∃ v', (execOp a.eval o).run P w = .ok (.value v') w ∧ RelV G v v' := by
        intro q hop hq hm
        subst hm
        simp only [evP] at h
        split at h
        · rename_i b hb
          cases h
          refine ⟨_, by simp only [execOp, heq]; exact exec_v (eqv_sound x y hop hb hx hy hq), ?_⟩
          exact .bool _
        · cases h
      have binf : m = .bin op x' y' → ∃ v', (execOp a.eval o).run P w = .ok (.value v') w ∧ RelV G v v' := by
        intro hm
        subst hm
        simp only [evP] at h
        obtain ⟨v', q1, q2⟩ := bin_run (P := P) (w := w) (t := t) (ox := x) (oy := y) h hx hy
        exact ⟨v', by simp only [execOp, heq]; exact exec_v q1, q2⟩
      split at hc
      · cases hc; exact binf rfl
      · cases hc; exact binf rfl
      · cases hc; exact binf rfl
      · cases hc; exact binf rfl
      · rename_i ms hu
        split at hc
        · rename_i hm; cases hc; exact fin (.ifc (eqOks P)) (.inl rfl) ⟨ms, hu, hm, rfl⟩ rfl
        · cases hc
      · rename_i ms hu
        split at hc
        · rename_i hm; cases hc; exact fin (.ifc (eqOks P)) (.inr rfl) ⟨ms, hu, hm, rfl⟩ rfl
        · cases hc
      · rename_i el hu; cases hc; exact fin .ptr (.inl rfl) ⟨el, hu⟩ rfl
      · rename_i el hu; cases hc; exact fin .ptr (.inr rfl) ⟨el, hu⟩ rfl
      · rename_i el hu; cases hc; exact fin .slc (.inl rfl) ⟨el, hu⟩ rfl
      · rename_i el hu; cases hc; exact fin .slc (.inr rfl) ⟨el, hu⟩ rfl
      · rename_i fs hu
        split at hc
        · rename_i q hq
          split at hc
          · cases hc
          · rename_i hg; cases hc; exact fin (.flat q) (.inl rfl) ⟨hq, by simpa using hg, .inr ⟨fs, hu⟩⟩ rfl
        · cases hc
      · rename_i fs hu
        split at hc
        · rename_i q hq
          split at hc
          · cases hc
          · rename_i hg; cases hc; exact fin (.flat q) (.inr rfl) ⟨hq, by simpa using hg, .inr ⟨fs, hu⟩⟩ rfl
        · cases hc
      · rename_i hu
        split at hc
        · rename_i q hq
          split at hc
          · cases hc
          · rename_i hg; cases hc; exact fin (.flat q) (.inl rfl) ⟨hq, by simpa using hg, .inl hu⟩ rfl
        · cases hc
      · rename_i hu
        split at hc
        · rename_i q hq
          split at hc
          · cases hc
          · rename_i hg; cases hc; exact fin (.flat q) (.inr rfl) ⟨hq, by simpa using hg, .inl hu⟩ rfl
        · cases hc
      · cases hc
      · cases hc
      · cases hc; exact binf rfl
    · cases hc
  case h_12 op t x heq =>
    obtain ⟨y, h1, rfl⟩ := cOpd_map hc
    simp only [evP] at h
    obtain ⟨v', q1, q2⟩ := unV_sound (P := P) (w := w) h (hE.opd h1)
    exact ⟨v', by simp only [execOp, heq]; exact exec_v q1, q2⟩
  case h_13 src dst x heq =>
    have fin : ∀ (c : Cv) (y : Opd), cOpd x = some y → m = .conv c y → ConvAt P src dst c → (∃ d, P.underlying src = some d) → ∃ v', (execOp a.eval o).run P w = .ok (.value v') w ∧ RelV G v v' := by
      intro c y h1 hm hcv hs
      subst hm
      simp only [evP] at h
      obtain ⟨v', q1, q2⟩ := convP_sound (P := P) (w := w) src dst hI h (hE.opd h1) hcv hs
      exact ⟨v', by simp only [execOp, heq]; exact exec_v q1, q2⟩
    split at hc
    · rename_i d k y hs hd h1; cases hc; exact fin (.toInt k) y h1 rfl hd ⟨_, hs⟩
    · rename_i k y hs hd h1; cases hc; exact fin .itos y h1 rfl hd ⟨_, hs⟩
    · rename_i y hs hd h1; cases hc; exact fin .same y h1 rfl ⟨hs, hd⟩ ⟨_, hs⟩
    · rename_i el y hs hd h1
      split at hc
      · rename_i he; cases hc; exact fin .s2b y h1 rfl ⟨hs, el, hd, he⟩ ⟨_, hs⟩
      · cases hc
    · rename_i el y hs hd h1
      split at hc
      · rename_i he; cases hc; exact fin .b2s y h1 rfl ⟨el, hs, hd, he⟩ ⟨_, hs⟩
      · rename_i he; cases hc; exact fin .r2s y h1 rfl ⟨el, hs, hd, he⟩ ⟨_, hs⟩
      · cases hc
    · rename_i el e2 y hs hd h1
      split at hc
      · rename_i hsd he; cases hc; exact fin .mark y h1 rfl ⟨by simpa using hsd, e2, hd, he⟩ ⟨_, hs⟩
      · cases hc
    · cases hc
  case h_14 t x heq =>
    split at hc
    · cases hc
    · cases hc
    · rename_i d h1 h2
      obtain ⟨y, h3, rfl⟩ := cOpd_map hc
      simp only [evP] at h
      cases h
      have hu : ∃ d, P.underlying t = some d := by
        cases hq : P.underlying t with
        | none => exact absurd hq h2
        | some d => exact ⟨d, rfl⟩
      obtain ⟨d, hd⟩ := hu
      refine ⟨.iface t (a.eval x), ?_, .iface _ _ _ (hE.opd h3)⟩
      simp only [execOp, heq]
      refine exec_v ?_
      simp only [Instr.makeInterface, Sem.run_bind, run_underlying hd, Result.andThen_ok]
      cases d <;> first | rfl | exact absurd hd (h1 _)
  case h_15 t x lo hi heq =>
    split at hc
    · rename_i y l hh hu h1 h2 h3
      cases hc
      simp only [evP] at h
      have hr := hE.opd h1
      have rl := cOpdO_rel hE h2
      have rh := cOpdO_rel hE h3
      generalize hv : a.eval x = xv at hr
      generalize opd gl e y = yv at h hr
      cases hr with
      | str s =>
        obtain ⟨v', q1, q2⟩ := slcS_sound (P := P) (w := w) t h rl rh hu
        exact ⟨v', by simp only [execOp, heq, hv]; exact exec_v q1, q2⟩
      | _ => simp [slcS] at h
    · rename_i el y l hh hu h1 h2 h3
      split at hc
      · rename_i n hn
        cases hc
        simp only [evP] at h
        have hr := hE.opd h1
        have rl := cOpdO_rel hE h2
        have rh := cOpdO_rel hE h3
        unfold szOf at hn
        obtain ⟨it, hit, hsz⟩ := Option.map_eq_some_iff.1 hn
        obtain ⟨v', q1, q2⟩ := slcV_slice (P := P) (w := w) t el it h hr rl rh hu hit hsz
        exact ⟨v', by simp only [execOp, heq]; exact exec_v q1, q2⟩
      · cases hc
    · cases hc
  case h_16 t x f heq =>
    split at hc
    · rename_i fs hu
      split at hc
      · rename_i fd hf
        split at hc
        · rename_i n hn
          obtain ⟨y, h1, rfl⟩ := cOpd_map hc
          simp only [evP] at h
          have hr := hE.opd h1
          generalize hv : a.eval x = xv at hr
          generalize opd gl e y = yv at h hr
          cases hr <;> (try simp only at h) <;> try (cases h; done)
          · rename_i b o1 g hrho
            cases h
            exact ⟨_, by simp only [execOp, heq, hv]; exact exec_v (fieldAt_run hu hf hn g o1), .ptr _ _ _ hrho⟩
          · rename_i cs g o1 vs hl hi
            split at h
            · cases h
              refine ⟨_, by simp only [execOp, heq, hv]; exact exec_v (fieldAt_run hu hf hn g o1), .rp _ _ _ (vs.drop fd.offset) (hl.drop _) (fun j u hu => ?_)⟩
              rw [List.getElem?_drop] at hu
              have := hi _ _ hu
              rw [show o1 + fd.offset + j = o1 + (fd.offset + j) by omega]; exact this
            · cases h
        · cases hc
      · cases hc
    · cases hc
  case h_17 t x f heq =>
    split at hc
    · rename_i fs hu
      split at hc
      · rename_i fd hf
        split at hc
        · rename_i n y hn h1
          cases hc
          simp only [evP] at h
          have hr := hE.opd h1
          generalize hv : a.eval x = xv at hr
          generalize opd gl e y = yv at h hr
          cases hr <;> (try simp only at h) <;> try (cases h; done)
          rename_i cs V hl
          obtain ⟨v', q1, q2⟩ := part_sound (P := P) (w := w) hn h hl
          refine ⟨v', ?_, q2⟩
          simp only [execOp, heq, hv]
          exact exec_v (by simp [Instr.field, run_underlying hu, hf, asAgg, q1])
        · cases hc
      · cases hc
    · cases hc
  case h_18 t x i heq =>
    split at hc
    · rename_i el y j hu h1 h2
      split at hc
      · rename_i n hn
        cases hc
        simp only [evP] at h
        have hr := hE.opd h1
        have hri := hE.opd h2
        generalize hv : a.eval x = xv at hr
        generalize opd gl e y = yv at h hr
        cases hr <;> (try simp only at h) <;> try (cases h; done)
        · rename_i cs len tk g o1 cap vs hl hi hcn hcm htk
          split at h
          · rename_i jj hj
            cases h
            obtain ⟨k, z, q1, q2, q3, q4⟩ := idx_sound hj hri
            refine ⟨_, by simp only [execOp, heq, hv, q1]; exact exec_v (indexAt_slice hu hn q2 q3), ?_⟩
            rw [q4]
            refine .rp _ _ _ (vs.drop (jj * n)) (hl.drop _) (fun j' u hu => ?_)
            rw [List.getElem?_drop] at hu
            have := hi _ _ hu
            rw [show o1 + jj * n + j' = o1 + (jj * n + j') by omega]; exact this
          · cases h
        · rename_i zz b o1 len g cap L hrho hlim hcn hcc hcm
          split at h
          · rename_i jj hj
            cases h
            obtain ⟨k, z, q1, q2, q3, q4⟩ := idx_sound hj hri
            refine ⟨_, by simp only [execOp, heq, hv, q1]; exact exec_v (indexAt_slice hu hn q2 q3), ?_⟩
            rw [q4]
            exact .ptr _ _ _ hrho
          · cases h
      · cases hc
    · rename_i len el y j hu h1 h2
      split at hc
      · rename_i n hn
        cases hc
        simp only [evP] at h
        have hr := hE.opd h1
        have hri := hE.opd h2
        generalize hv : a.eval x = xv at hr
        generalize opd gl e y = yv at h hr
        cases hr <;> (try simp only at h) <;> try (cases h; done)
        · rename_i b o1 g hrho
          split at h
          · rename_i jj hj
            cases h
            obtain ⟨k, z, q1, q2, q3, q4⟩ := idx_sound hj hri
            refine ⟨_, by simp only [execOp, heq, hv, q1]; exact exec_v (indexAt_array hu hn q2 q3), ?_⟩
            rw [q4]
            exact .ptr _ _ _ hrho
          · cases h
        · rename_i cs g o1 vs hl hi
          split at h
          · rename_i jj hj
            split at h
            · cases h
              obtain ⟨k, z, q1, q2, q3, q4⟩ := idx_sound hj hri
              refine ⟨_, by simp only [execOp, heq, hv, q1]; exact exec_v (indexAt_array hu hn q2 q3), ?_⟩
              rw [q4]
              refine .rp _ _ _ (vs.drop (jj * n)) (hl.drop _) (fun j' u hu => ?_)
              rw [List.getElem?_drop] at hu
              have := hi _ _ hu
              rw [show o1 + jj * n + j' = o1 + (jj * n + j') by omega]; exact this
            · cases h
          · cases h
      · cases hc
    · cases hc
  case h_19 t x i heq =>
    split at hc
    · rename_i len el y j hu h1 h2
      split at hc
      · rename_i b n hb hn
        cases hc
        simp only [evP] at h
        have hr := hE.opd h1
        have hri := hE.opd h2
        generalize hv : a.eval x = xv at hr
        generalize opd gl e y = yv at h hr
        cases hr <;> (try simp only at h) <;> try (cases h; done)
        rename_i cs V hl
        split at h
        · rename_i jj hj
          obtain ⟨k, z, q1, q2, q3, q4⟩ := idx_sound hj hri
          have hcn : cellsN P el = some (if b then some n else none) ∨ (b = false ∧ n ≠ 1) := by
            unfold cellsN
            rw [hb, hn]
            cases b
            · by_cases h1 : n = 1
              · subst h1; exact .inl rfl
              · exact .inr ⟨rfl, h1⟩
            · exact .inl rfl
          have hp : ∃ v', (part el V (jj * n)).run P w = .ok v' w ∧ RelV G v v' := by
            rcases hcn with hcn | ⟨rfl, _⟩
            · exact part_sound hcn h hl
            · simp only [cut, Bool.false_eq_true, if_false] at h
              obtain ⟨u, hu', r, _⟩ := hl.get h
              have hu'' : V[jj * n]? = some u := by simpa using hu'
              exact ⟨u, by simp [part, isAg_run hb, hu''], r⟩
          obtain ⟨v', p1, p2⟩ := hp
          refine ⟨v', ?_, p2⟩
          simp only [execOp, heq, hv, q1]
          refine exec_v ?_
          simp [Instr.index, asIntOf, run_underlying hu, q2, q3, szOf_run hn, q4, p1]
        · cases h
      · cases hc
    · rename_i y j hu h1 h2
      cases hc
      simp only [evP] at h
      have hr := hE.opd h1
      have hri := hE.opd h2
      generalize hv : a.eval x = xv at hr
      generalize opd gl e y = yv at h hr
      cases hr <;> (try simp only at h) <;> try (cases h; done)
      rename_i s
      split at h
      · rename_i jj hj
        split at h
        · rename_i b hb
          cases h
          obtain ⟨k, z, q1, q2, q3, q4⟩ := idx_sound hj hri
          refine ⟨.int .u8 b.toNat, ?_, .int _ _⟩
          simp only [execOp, heq, hv, q1]
          refine exec_v ?_
          have hs : s[z.toNat]? = some b := by
            rw [q4]
            have : s.data[jj]? = some b := by simpa using hb
            exact this
          simp [Instr.index, asIntOf, run_underlying hu, q2, hs]
        · cases h
      · cases h
    · cases hc
  case h_20 x xt t ok heq =>
    split at hc
    · cases hc
    · rename_i d z y hd hu hz h1
      cases hc
      simp only [evP] at h
      have hzr : ∃ zv, (zeroValue t).run P w = .ok zv w ∧ RelV G z zv := by
        unfold zeroOf at hz
        split at hz
        · rename_i zv hzz
          obtain ⟨it, hit, hz2⟩ := Option.bind_eq_some_iff.1 hzz
          exact ⟨zv, by simp [zeroValue, typeInfo, hit, hz2], toAVa_rel hz⟩
        · cases hz
      obtain ⟨zv, hz1, hz2⟩ := hzr
      have hr := hE.opd h1
      generalize hv : a.eval x = xv at hr
      generalize opd gl e y = yv at h hr
      have hnot : ∀ ms, d ≠ .interface ms := fun ms e => hd ms e
      cases hr <;> (try simp only at h) <;> try (cases h; done)
      · split at h
        · rename_i hok
          cases h
          refine ⟨.tuple #[zv, .bool false], ?_, .tup _ _ (.cons _ _ _ _ hz2 (.cons _ _ _ _ (.bool _) .nil))⟩
          simp only [execOp, heq, hv]
          refine exec_v ?_
          simp only [Instr.typeAssert, Sem.run_bind, run_underlying hu, Result.andThen_ok]
          cases d <;> first | exact absurd rfl (hnot _) | simp [hok, hz1]
        · cases h
      · rename_i u av vv hrv
        split at h
        · rename_i e
          subst e
          cases h
          cases ok
          · refine ⟨vv, ?_, hrv⟩
            simp only [execOp, heq, hv]
            refine exec_v ?_
            simp only [Instr.typeAssert, Sem.run_bind, run_underlying hu, Result.andThen_ok]
            cases d <;> first | exact absurd rfl (hnot _) | simp
          · refine ⟨.tuple #[vv, .bool true], ?_, .tup _ _ (.cons _ _ _ _ hrv (.cons _ _ _ _ (.bool _) .nil))⟩
            simp only [execOp, heq, hv]
            refine exec_v ?_
            simp only [Instr.typeAssert, Sem.run_bind, run_underlying hu, Result.andThen_ok]
            cases d <;> first | exact absurd rfl (hnot _) | simp
        · rename_i hne
          split at h
          · rename_i hok
            cases h
            refine ⟨.tuple #[zv, .bool false], ?_, .tup _ _ (.cons _ _ _ _ hz2 (.cons _ _ _ _ (.bool _) .nil))⟩
            simp only [execOp, heq, hv]
            refine exec_v ?_
            simp only [Instr.typeAssert, Sem.run_bind, run_underlying hu, Result.andThen_ok]
            cases d <;> first | exact absurd rfl (hnot _) | simp [hok, hz1, hne]
          · cases h
    · cases hc
  case h_21 x i heq =>
    obtain ⟨y, h1, rfl⟩ := cOpd_map hc
    simp only [evP] at h
    have hr := hE.opd h1
    generalize hv : a.eval x = xv at hr
    generalize opd gl e y = yv at h hr
    cases hr <;> (try simp only at h) <;> try (cases h; done)
    rename_i cs V hl
    obtain ⟨u, q1, q2⟩ := hl.get h
    have q1' : V[i]? = some u := by simpa using q1
    exact ⟨u, by simp only [execOp, heq, hv]; exact exec_v (by simp [Instr.extract, q1']), q2⟩
  case h_22 args ts heq =>
    split at hc
    · rename_i x t ha ht'
      have ea : args = #[x] := by rw [← Array.toArray_toList (xs := args), ha]
      have et : ts = #[t] := by rw [← Array.toArray_toList (xs := ts), ht']
      subst ea; subst et
      split at hc
      · rename_i y hu h1
        cases hc
        simp only [evP] at h
        have hr := hE.opd h1
        generalize hv : a.eval x = xv at hr
        generalize opd gl e y = yv at h hr
        cases hr <;> (try simp only at h) <;> try (cases h; done)
        rename_i s
        cases h
        have hsz : s.data.toList.length = s.size := by simp
        rw [hsz]
        refine ⟨.int .i64 s.size, ?_, .int _ _⟩
        simp [execOp, heq, resolve, invoke, builtin, hv, Builtin.len_, run_underlying hu, goInt]
      · rename_i el y hu h1
        cases hc
        simp only [evP] at h
        have hr := hE.opd h1
        generalize hv : a.eval x = xv at hr
        generalize opd gl e y = yv at h hr
        cases hr <;> (try simp only at h) <;> try (cases h; done)
        all_goals
          cases h
          refine ⟨.int .i64 _, ?_, .int _ _⟩
          simp [execOp, heq, resolve, invoke, builtin, hv, Builtin.len_, run_underlying hu, goInt]
      · cases hc
    · cases hc
  case h_23 args ts heq =>
    obtain ⟨ms, h1, rfl⟩ := Option.map_eq_some_iff.1 hc
    have hr := hE.opds h1
    simp only [evP] at h
    split at h
    · cases h
    · rename_i x xs hxs
      split at h
      · rw [hxs] at hr
        generalize hl : args.toList.map a.eval = us at hr
        cases hr with
        | cons _ u _ us r t =>
          obtain ⟨v', q1, q2⟩ := foldV_sound (P := P) (w := w) (f' := Builtin.min2) (fun _ _ _ _ _ p q r => mnV_sound p q r) h r t
          refine ⟨v', ?_, q2⟩
          simp [execOp, heq, resolve, invoke, builtin, Builtin.min_, hl, q1]
      · cases h
  case h_24 args ts heq =>
    obtain ⟨ms, h1, rfl⟩ := Option.map_eq_some_iff.1 hc
    have hr := hE.opds h1
    simp only [evP] at h
    split at h
    · cases h
    · rename_i x xs hxs
      split at h
      · rw [hxs] at hr
        generalize hl : args.toList.map a.eval = us at hr
        cases hr with
        | cons _ u _ us r t =>
          obtain ⟨v', q1, q2⟩ := foldV_sound (P := P) (w := w) (f' := Builtin.max2) (fun _ _ _ _ _ p q r => mxV_sound p q r) h r t
          refine ⟨v', ?_, q2⟩
          simp [execOp, heq, resolve, invoke, builtin, Builtin.max_, hl, q1]
      · cases h
  case h_25 args ts heq =>
    split at hc
    · split at hc
      · split at hc
        · split at hc
          · cases hc; simp [evP] at h
          · cases hc
        · cases hc
      · split at hc
        · split at hc
          · cases hc; simp [evP] at h
          · cases hc
        · cases hc
      · cases hc
    · cases hc
  case h_26 args ts heq =>
    split at hc
    · split at hc
      · split at hc
        · cases hc; simp [evP] at h
        · cases hc
      · split at hc
        · cases hc; simp [evP] at h
        · cases hc
      · cases hc
    · cases hc
  case h_27 f args ts heq =>
    obtain ⟨ms, h1, rfl⟩ := Option.map_eq_some_iff.1 hc
    simp [evP] at h
  case h_28 t l c heq =>
    split at hc
    · split at hc
      · split at hc
        · cases hc; simp [evP] at h
        · cases hc
      · cases hc
    · cases hc
  case h_29 t x heq =>
    split at hc
    · obtain ⟨y, _, rfl⟩ := cOpd_map hc
      simp [evP] at h
    · cases hc
  case h_30 x heq =>
    obtain ⟨y, _, rfl⟩ := cOpd_map hc
    simp [evP] at h
  case h_31 => cases hc

end
end Go.Ab
