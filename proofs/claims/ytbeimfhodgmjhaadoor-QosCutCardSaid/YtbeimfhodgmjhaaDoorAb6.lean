/- The evaluator's operations on values answer as the machine's do, continued: equality, fields, building. No conditions. -/
import Derived.Test.YtbeimfhodgmjhaaDoorAb5
import Derived.Laws.StructEq
set_option linter.unusedSimpArgs false
set_option linter.unusedVariables false
namespace Go.Ab
open Go

section
variable {P : Program} {G : Gh} {w : World}

/-! ### Equality -/
theorem eqSc_sound {k : SK} {x y : AV} {b : Bool} {x' y' : Value} {t : TypeId} (d : Nat) (h : eqSc k x y = some b) (hx : RelV G x x') (hy : RelV G y y') (ht : scKind P t = some k) :
    (Op.equalIn (d + 1) t x' y').run P w = .ok b w := by
  unfold scKind at ht
  split at ht <;> try (cases ht; done)
  · rename_i hu
    cases ht
    cases hx <;> cases hy <;> (try simp only [eqSc] at h) <;> try (cases h; done)
    cases h
    exact run_equalIn_bool' w d t _ _ hu
  · rename_i k0 hu
    cases ht
    cases hx <;> cases hy <;> (try simp only [eqSc] at h) <;> try (cases h; done)
    split at h
    · rename_i e
      cases h
      subst e
      exact run_equalIn_int w d t _ _ _ _ hu
    · cases h
  · rename_i hu
    cases ht
    cases hx <;> cases hy <;> (try simp only [eqSc] at h) <;> try (cases h; done)
    cases h
    rw [run_equalIn_string w d t _ _ hu, ByteArray.toList_eq, ByteArray.toList_eq]

theorem run_isAgg_of {t : TypeId} {d : TypeDesc} (hu : P.underlying t = some d) (hs : ∀ fs, d ≠ .struct fs) (ha : ∀ n e, d ≠ .array n e) : (isAgg t).run P w = .ok false w := by
  simp only [isAgg, Sem.run_bind, run_underlying hu, Result.andThen_ok]
  cases d <;> first | rfl | exact absurd rfl (hs _) | exact absurd rfl (ha _ _)
theorem run_part_cell {t : TypeId} {d : TypeDesc} {V : Array Value} {off : Nat} {v : Value} (hu : P.underlying t = some d) (hs : ∀ fs, d ≠ .struct fs) (ha : ∀ n e, d ≠ .array n e) (hx : V[off]? = some v) :
    (part t V off).run P w = .ok v w := by
  simp [part, run_isAgg_of hu hs ha, hx]
theorem scKind_desc {t : TypeId} {k : SK} (h : scKind P t = some k) : ∃ d, P.underlying t = some d ∧ (∀ fs, d ≠ .struct fs) ∧ (∀ n e, d ≠ .array n e) := by
  unfold scKind at h
  split at h <;> first
    | (rename_i hu; exact ⟨_, hu, by simp, by simp⟩)
    | cases h

theorem eqScL_append {ks : List SK} {b : Bool} : ∀ {ks1 : List SK} {xs ys : List AV}, eqScL (ks1 ++ ks) xs ys = some b →
    (eqScL ks1 (xs.take ks1.length) (ys.take ks1.length) = some true ∧ eqScL ks (xs.drop ks1.length) (ys.drop ks1.length) = some b) ∨
    (eqScL ks1 (xs.take ks1.length) (ys.take ks1.length) = some false ∧ b = false) := by
  intro ks1
  induction ks1 with
  | nil => intro xs ys h; exact .inl ⟨by simp [eqScL], by simpa using h⟩
  | cons k ks1 ih =>
    intro xs ys h
    cases xs with
    | nil => simp [eqScL] at h
    | cons x xs => cases ys with
      | nil => simp [eqScL] at h
      | cons y ys =>
        simp only [List.cons_append, eqScL] at h
        simp only [List.length_cons, List.take_succ_cons, List.drop_succ_cons, eqScL]
        split at h
        · exact ih h
        · rename_i hs; cases h; exact .inr ⟨by simp, rfl⟩
        · cases h
/-- A part of a struct that is a struct itself. -/
theorem run_part_agg {t : TypeId} {fs : Array Field} {V : Array Value} {off n : Nat} (hu : P.underlying t = some (.struct fs)) (hs : szOf P t = some n) :
    (part t V off).run P w = .ok (.agg (V.extract off (off + n))) w := by
  unfold szOf at hs
  obtain ⟨i, hi, rfl⟩ := Option.map_eq_some_iff.1 hs
  simp [part, isAgg, run_underlying hu, Go.sizeOf, typeInfo, hi]
theorem eqFields_sound {sub : TypeId → Option (List SK)} (d : Nat)
    (hsub : ∀ t ks, sub t = some ks → (∃ fs, P.underlying t = some (.struct fs)) ∧ ∀ (xs ys : List AV) (V U : Array Value) (b : Bool), eqScL ks xs ys = some b → RelL G xs V.toList → RelL G ys U.toList → (Op.equalIn (d + 1) t (.agg V) (.agg U)).run P w = .ok b w)
    {fs : List Field} : ∀ {ks : List SK} {off : Nat} {xs ys : List AV} {V U : Array Value} {b : Bool}, flatFields P sub fs off = some ks → eqScL ks xs ys = some b →
    RelL G xs (V.toList.drop off) → RelL G ys (U.toList.drop off) → (Op.eqFields (d + 1) V U fs).run P w = .ok b w := by
  induction fs with
  | nil =>
    intro ks off xs ys V U b hf he hx hy
    simp only [flatFields] at hf
    cases hf
    cases xs with
    | nil => cases ys with
      | nil => simp only [eqScL] at he; cases he; simp [Op.eqFields]
      | cons y ys => simp [eqScL] at he
    | cons x xs => simp [eqScL] at he
  | cons f fs ih =>
    intro ks off xs ys V U b hf he hx hy
    simp only [flatFields] at hf
    split at hf
    · rename_i ks1 hk1
      split at hf
      · rename_i ks' hks
        split at hf
        · rename_i hc
          cases hf
          have hxt : RelL G (xs.drop ks1.length) (V.toList.drop (off + ks1.length)) := by have := hx.drop ks1.length; simpa [List.drop_drop] using this
          have hyt : RelL G (ys.drop ks1.length) (U.toList.drop (off + ks1.length)) := by have := hy.drop ks1.length; simpa [List.drop_drop] using this
          have hh := eqScL_append he
          -- the field itself
          have one : ∀ c, eqScL ks1 (xs.take ks1.length) (ys.take ks1.length) = some c →
              ∃ v u, (part f.type V off).run P w = .ok v w ∧ (part f.type U off).run P w = .ok u w ∧ (Op.equalIn (d + 1) f.type v u).run P w = .ok c w := by
            intro c hcc
            unfold fieldKinds at hk1
            split at hk1
            · rename_i k hk
              cases hk1
              cases xs with
              | nil => simp [eqScL] at hcc
              | cons x xs => cases ys with
                | nil => simp [eqScL] at hcc
                | cons y ys =>
                  obtain ⟨v, hv, rv, _⟩ := hx.get (i := 0) (by simp : (x :: xs)[0]? = some x)
                  obtain ⟨u, hu, ru, _⟩ := hy.get (i := 0) (by simp : (y :: ys)[0]? = some y)
                  have hv' : V[off]? = some v := by simpa using hv
                  have hu' : U[off]? = some u := by simpa using hu
                  obtain ⟨dd, hd, h1, h2⟩ := scKind_desc hk
                  refine ⟨v, u, run_part_cell hd h1 h2 hv', run_part_cell hd h1 h2 hu', ?_⟩
                  simp only [List.length_cons, List.length_nil, List.take_succ_cons, List.take_zero, eqScL] at hcc
                  split at hcc
                  · rename_i hs; simp only [Option.some.injEq] at hcc; subst hcc; exact eqSc_sound d hs rv ru hk
                  · rename_i hs; cases hcc; exact eqSc_sound d hs rv ru hk
                  · cases hcc
            · split at hk1
              · rename_i ks0 hs0
                split at hk1
                · rename_i hsz
                  cases hk1
                  obtain ⟨⟨gs, hu⟩, hall⟩ := hsub _ _ hs0
                  refine ⟨_, _, run_part_agg hu hsz, run_part_agg hu hsz, ?_⟩
                  refine hall _ _ _ _ c hcc ?_ ?_
                  · have := hx.take ks1.length
                    simpa [Array.toList_extract, List.extract_eq_take_drop] using this
                  · have := hy.take ks1.length
                    simpa [Array.toList_extract, List.extract_eq_take_drop] using this
                · cases hk1
              · cases hk1
          rw [Op.eqFields, if_pos hc.2, hc.1]
          rcases hh with ⟨h1, h2⟩ | ⟨h1, h2⟩
          · obtain ⟨v, u, e1, e2, e3⟩ := one true h1
            simp only [Sem.run_bind, e1, e2, e3, Result.andThen_ok, Bool.not_true, Bool.false_eq_true, if_false]
            exact ih hks h2 hxt hyt
          · obtain ⟨v, u, e1, e2, e3⟩ := one false h1
            subst h2
            simp [Sem.run_bind, e1, e2, e3]
        · cases hf
      · cases hf
    · cases hf
theorem flatSub_sound : ∀ (d m : Nat) (t : TypeId) (ks : List SK), flatSub P d t = some ks → (∃ fs, P.underlying t = some (.struct fs)) ∧
    ∀ (xs ys : List AV) (V U : Array Value) (b : Bool), eqScL ks xs ys = some b → RelL G xs V.toList → RelL G ys U.toList → (Op.equalIn (m + d + 1) t (.agg V) (.agg U)).run P w = .ok b w := by
  intro d
  induction d with
  | zero => intro m t ks h; simp [flatSub] at h
  | succ d ih =>
    intro m t ks h
    simp only [flatSub] at h
    split at h
    · rename_i fs hu
      split at h
      · cases h
      · rename_i hst
        refine ⟨⟨fs, hu⟩, fun xs ys V U b he hx hy => ?_⟩
        have hf : P.fieldsOf t = fs := by simp [Program.fieldsOf, hu]
        rw [show m + (d + 1) + 1 = (m + d + 1) + 1 by omega, run_equalIn_struct w (m + d + 1) t V U (by rw [hf]; exact hu) (by simpa using hst), hf]
        exact eqFields_sound (m + d) (fun t ks h => ih m t ks h) h he (by simpa using hx) (by simpa using hy)
    · cases h

theorem eqFl_sound {q : EqF} {x y : AV} {b : Bool} {x' y' : Value} {t : TypeId} (d : Nat) (h : eqFl q x y = some b) (hx : RelV G x x') (hy : RelV G y y') (ht : flatKind P t = some q) :
    (Op.equalIn (d + 5) t x' y').run P w = .ok b w := by
  unfold flatKind at ht
  split at ht
  · obtain ⟨ks, hks, rfl⟩ := Option.map_eq_some_iff.1 ht
    cases hx <;> (try simp only [eqFl] at h) <;> try (cases h; done)
    rename_i xs V hxs
    cases hy <;> (try simp only [eqFl] at h) <;> try (cases h; done)
    rename_i ys U hys
    exact (flatSub_sound 4 d t ks hks).2 xs ys V U b h hxs hys
  · obtain ⟨k, hk, rfl⟩ := Option.map_eq_some_iff.1 ht
    exact eqSc_sound (d + 4) h hx hy hk

theorem eqOf_sound {ts : List TypeId} {t : TypeId} {q : EqF} (h : eqOf (eqOksL P ts) t = some q) : flatKind P t = some q ∧ ∃ i, P.info? t = some i ∧ i.comparable = true := by
  induction ts with
  | nil => simp [eqOksL, eqOf] at h
  | cons u us ih =>
    simp only [eqOksL] at h
    split at h
    · rename_i q' i hq hi
      split at h
      · rename_i hc
        simp only [eqOf] at h
        split at h
        · rename_i e
          subst e
          cases h
          exact ⟨hq, i, hi, hc⟩
        · exact ih h
      · exact ih h
    · exact ih h

theorem eqIn_nn (d : Nat) {t e : TypeId} (hu : P.underlying t = some (.pointer e)) : (Op.equalIn (d + 1) t (.pointer none) (.pointer none)).run P w = .ok true w := by simp [Op.equalIn, run_underlying hu]
theorem eqIn_np (d : Nat) {t e : TypeId} (a : Addr) (hu : P.underlying t = some (.pointer e)) : (Op.equalIn (d + 1) t (.pointer none) (.pointer (some a))).run P w = .ok false w := by simp [Op.equalIn, run_underlying hu]
theorem eqIn_pn (d : Nat) {t e : TypeId} (a : Addr) (hu : P.underlying t = some (.pointer e)) : (Op.equalIn (d + 1) t (.pointer (some a)) (.pointer none)).run P w = .ok false w := by simp [Op.equalIn, run_underlying hu]
theorem eqIn_snn (d : Nat) {t e : TypeId} (hu : P.underlying t = some (.slice e)) : (Op.equalIn (d + 1) t (.slice none 0 0) (.slice none 0 0)).run P w = .ok true w := by simp [Op.equalIn, run_underlying hu]
theorem eqIn_sns (d : Nat) {t e : TypeId} (a : Addr) (n c : Nat) (hu : P.underlying t = some (.slice e)) : (Op.equalIn (d + 1) t (.slice none 0 0) (.slice (some a) n c)).run P w = .ok false w := by simp [Op.equalIn, run_underlying hu]
theorem eqIn_ssn (d : Nat) {t e : TypeId} (a : Addr) (n c : Nat) (hu : P.underlying t = some (.slice e)) : (Op.equalIn (d + 1) t (.slice (some a) n c) (.slice none 0 0)).run P w = .ok false w := by simp [Op.equalIn, run_underlying hu]
theorem eqIn_inn (d : Nat) {t : TypeId} {ms : Array (String × TypeId)} (hu : P.underlying t = some (.interface ms)) : (Op.equalIn (d + 1) t .nilIface .nilIface).run P w = .ok true w := by simp [Op.equalIn, run_underlying hu]
theorem eqIn_ini (d : Nat) {t u : TypeId} {v : Value} {ms : Array (String × TypeId)} (hu : P.underlying t = some (.interface ms)) : (Op.equalIn (d + 1) t .nilIface (.iface u v)).run P w = .ok false w := by simp [Op.equalIn, run_underlying hu]
theorem eqIn_iin (d : Nat) {t u : TypeId} {v : Value} {ms : Array (String × TypeId)} (hu : P.underlying t = some (.interface ms)) : (Op.equalIn (d + 1) t (.iface u v) .nilIface).run P w = .ok false w := by simp [Op.equalIn, run_underlying hu]
theorem eqIn_iine (d : Nat) {t u u' : TypeId} {v v' : Value} {ms : Array (String × TypeId)} (hu : P.underlying t = some (.interface ms)) (h : ¬ u = u') : (Op.equalIn (d + 1) t (.iface u v) (.iface u' v')).run P w = .ok false w := by simp [Op.equalIn, run_underlying hu, h]
theorem eqIn_iie (d : Nat) {t u : TypeId} {v v' : Value} {ms : Array (String × TypeId)} {i : TypeInfo} {b : Bool} (hu : P.underlying t = some (.interface ms)) (hi : P.info? u = some i) (hc : i.comparable = true)
    (h : (Op.equalIn d u v v').run P w = .ok b w) : (Op.equalIn (d + 1) t (.iface u v) (.iface u v')).run P w = .ok b w := by simp [Op.equalIn, run_underlying hu, typeInfo, hi, hc, h]
theorem eqGuardIn_inn (d : Nat) {t : TypeId} {ms : Array (String × TypeId)} (hu : P.underlying t = some (.interface ms)) (hm : ms.isEmpty = true) : (Op.eqGuardIn (d + 1) t .nilIface .nilIface).run P w = .ok false w := by simp [Op.eqGuardIn, run_underlying hu, hm]

/-- What is known of the type that '==' compares at. -/
def EqAt (P : Program) (t : TypeId) : EqK → Prop
  | .flat f => flatKind P t = some f ∧ P.eqGuardType P.depth t = false ∧ (P.underlying t = some .bool ∨ ∃ fs, P.underlying t = some (.struct fs))
  | .ptr => ∃ e, P.underlying t = some (.pointer e)
  | .slc => ∃ e, P.underlying t = some (.slice e)
  | .ifc oks => ∃ ms, P.underlying t = some (.interface ms) ∧ ms.size = 0 ∧ oks = eqOks P

theorem eqv_of_equal {op : BinOp} {t : TypeId} {x' y' : Value} {b : Bool} (ox oy : Operand) (hop : op = .eql ∨ op = .neq)
    (hg : (eqGuard op t ox oy x' y').run P w = .ok () w) (he : (Op.equal t x' y').run P w = .ok b w)
    (hb : ∀ op', op' = BinOp.eql ∨ op' = BinOp.neq → binOp op' t x' y' = (match op' with | .eql => (do pure (.bool (← Op.equal t x' y'))) | _ => (do pure (.bool (!(← Op.equal t x' y')))))) :
    (do eqGuard op t ox oy x' y'; binOp op t x' y' : Sem Value).run P w = .ok (.bool (if (isNeq op) then !b else b)) w := by
  simp only [Sem.run_bind, hg, Result.andThen_ok]
  rcases hop with rfl | rfl
  · rw [hb .eql (.inl rfl)]; simp [he, isNeq]
  · rw [hb .neq (.inr rfl)]; simp [he, isNeq]

theorem eqv_sound {op : BinOp} {q : EqK} {x y : AV} {b : Bool} {x' y' : Value} {t : TypeId} (ox oy : Operand) (hop : op = .eql ∨ op = .neq) (h : eqAV q x y = some b)
    (hx : RelV G x x') (hy : RelV G y y') (hq : EqAt P t q) :
    (do eqGuard op t ox oy x' y'; binOp op t x' y' : Sem Value).run P w = .ok (.bool (if (isNeq op) then !b else b)) w := by
  cases q with
  | flat f =>
    obtain ⟨h1, h2, h3⟩ := hq
    simp only [eqAV] at h
    have he := eqFl_sound (P := P) (w := w) 9995 h hx hy h1
    rcases h3 with h3 | ⟨fs, h3⟩
    · have : f = .one .b := by simp [flatKind, h3, scKind] at h1; exact h1.symm
      subst this
      simp only [eqFl] at h
      cases hx <;> cases hy <;> (try simp only [eqSc] at h) <;> try (cases h; done)
      exact eqv_of_equal ox oy hop (by rcases hop with rfl | rfl <;> simp [eqGuard]) he (by rintro op' (rfl | rfl) <;> rfl)
    · unfold flatKind at h1
      rw [h3] at h1
      simp only at h1
      obtain ⟨ks, hks, rfl⟩ := Option.map_eq_some_iff.1 h1
      cases hx <;> (try simp only [eqFl] at h) <;> try (cases h; done)
      cases hy <;> (try simp only [eqFl] at h) <;> try (cases h; done)
      exact eqv_of_equal ox oy hop (run_eqGuard_agg w op t ox oy _ _ h2) he (by rintro op' (rfl | rfl) <;> rfl)
  | ptr =>
    obtain ⟨e, hu⟩ := hq
    cases hx <;> cases hy <;> (try simp only [eqAV] at h) <;> try (cases h; done)
    all_goals
      cases h
      exact eqv_of_equal ox oy hop (by rcases hop with rfl | rfl <;> simp [eqGuard]) (by first | exact eqIn_nn 9999 hu | exact eqIn_np 9999 _ hu | exact eqIn_pn 9999 _ hu) (by rintro op' (rfl | rfl) <;> rfl)
  | slc =>
    obtain ⟨e, hu⟩ := hq
    cases hx <;> cases hy <;> (try simp only [eqAV] at h) <;> try (cases h; done)
    all_goals
      cases h
      exact eqv_of_equal ox oy hop (by rcases hop with rfl | rfl <;> simp [eqGuard]) (by first | exact eqIn_snn 9999 hu | exact eqIn_sns 9999 _ _ _ hu | exact eqIn_ssn 9999 _ _ _ hu) (by rintro op' (rfl | rfl) <;> rfl)
  | ifc oks =>
    obtain ⟨ms, hu, hm, rfl⟩ := hq
    have hme : ms.isEmpty = true := by simp [Array.isEmpty, hm]
    cases hx <;> cases hy <;> (try simp only [eqAV] at h) <;> try (cases h; done)
    · cases h
      refine eqv_of_equal ox oy hop ?_ (eqIn_inn 9999 hu) (by rintro op' (rfl | rfl) <;> rfl)
      have hgi : (Op.eqGuardIn Op.maxDepth t .nilIface .nilIface).run P w = .ok false w := eqGuardIn_inn 9999 hu hme
      rcases hop with rfl | rfl <;> (simp only [eqGuard]; split <;> first | (split <;> simp [hgi]; done) | simp [hgi])
    · cases h
      exact eqv_of_equal ox oy hop (by rcases hop with rfl | rfl <;> simp [eqGuard]) (eqIn_ini 9999 hu) (by rintro op' (rfl | rfl) <;> rfl)
    · cases h
      exact eqv_of_equal ox oy hop (by rcases hop with rfl | rfl <;> simp [eqGuard]) (eqIn_iin 9999 hu) (by rintro op' (rfl | rfl) <;> rfl)
    · rename_i t1 a1 v1 r1 t2 a2 v2 r2
      split at h
      · rename_i e
        subst e
        split at h
        · rename_i q hq
          obtain ⟨hf, i, hi, hc⟩ := eqOf_sound hq
          have he := eqFl_sound (P := P) (w := w) 9994 h r1 r2 hf
          exact eqv_of_equal ox oy hop (by rcases hop with rfl | rfl <;> simp [eqGuard]) (eqIn_iie 9999 hu hi hc he) (by rintro op' (rfl | rfl) <;> rfl)
        · cases h
      · rename_i e
        cases h
        exact eqv_of_equal ox oy hop (by rcases hop with rfl | rfl <;> simp [eqGuard]) (eqIn_iine 9999 hu e) (by rintro op' (rfl | rfl) <;> rfl)

end
end Go.Ab
