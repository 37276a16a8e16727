/- The evaluator is sound: operations put together, what is handed to a call, regions. No conditions. -/
import Derived.Test.YtbeimfhodgmjhaaDoorAb10
set_option linter.unusedSimpArgs false
set_option linter.unusedVariables false
namespace Go.Ab
open Go

section
variable {P : Program} {G : Gh} {w0 : World} {s : St} {w : World} {gl : Nat → AV} {e : Env} {a : Act}

theorem opR_sound {ht : List TypeId} {o : Oper} {m : MOp} {v : AV} (hc : cOp P (eqOks P) ht o = some m) (hE : RelE G gl e a) (hS : RelS G w0 s w) (h : evR gl e s m = some v) : OpOk P G w0 w a o v s := by
  unfold cOp at hc
  split at hc
  case h_8 t x heq =>
    split at hc
    · rename_i n y hn h1
      cases hc
      exact load_heap heq hn h1 hE hS h
    · cases hc
  case h_13 src dst x heq =>
    split at hc
    · rename_i d k y hs hd h1; cases hc; exact conv_heap heq h1 (c := .toInt k) hd hE hS h
    · rename_i k y hs hd h1; cases hc; exact conv_heap heq h1 (c := .itos) hd hE hS h
    · rename_i y hs hd h1; cases hc; exact conv_heap heq h1 (c := .same) ⟨hs, hd⟩ hE hS h
    · rename_i el y hs hd h1
      split at hc
      · rename_i he; cases hc; exact conv_heap heq h1 (c := .s2b) ⟨hs, el, hd, he⟩ hE hS h
      · cases hc
    · rename_i el y hs hd h1
      split at hc
      · rename_i he; cases hc; exact conv_heap heq h1 (c := .b2s) ⟨el, hs, hd, he⟩ hE hS h
      · rename_i he; cases hc; exact conv_heap heq h1 (c := .r2s) ⟨el, hs, hd, he⟩ hE hS h
      · cases hc
    · rename_i el e2 y hs hd h1
      split at hc
      · rename_i hsd he; cases hc; exact conv_heap heq h1 (c := .mark) ⟨by simpa using hsd, e2, hd, he⟩ hE hS h
      · cases hc
    · cases hc
  case h_31 => cases hc
  all_goals
    exfalso
    revert hc
    repeat' split
    all_goals first
      | (intro hc; cases hc; simp [evR] at h; done)
      | (intro hc; obtain ⟨_, _, rfl⟩ := Option.map_eq_some_iff.1 hc; simp [evR] at h; done)
      | (intro hc; cases hc; done)

theorem opW_sound {ht : List TypeId} {o : Oper} {m : MOp} {v : AV} {s' : St} (hc : cOp P (eqOks P) ht o = some m) (hE : RelE G gl e a) (hS : RelS G w0 s w) (h : evW gl e s m = some (v, s')) : OpOk P G w0 w a o v s' := by
  unfold cOp at hc
  split at hc
  case h_4 t heq =>
    obtain ⟨z, hz, rfl⟩ := Option.map_eq_some_iff.1 hc
    simp only [evW] at h
    cases h
    exact alloc_heap heq hz hS
  case h_5 t x heq =>
    split at hc
    · obtain ⟨y, h1, rfl⟩ := cOpd_map hc
      exact box_heap heq h1 hE hS h
    · cases hc
  case h_7 t len parts heq =>
    split at hc
    · rename_i el hu
      split at hc
      · rename_i size zs hs hz
        split at hc
        · rename_i ps hps
          split at hc
          · rename_i hcond
            cases hc
            exact bsl_heap heq hu hs hz hps hcond.1 hcond.2.1 hcond.2.2 hE hS h
          · cases hc
        · cases hc
      · cases hc
    · cases hc
  case h_9 t x y heq =>
    split at hc
    · rename_i n x' y' hn h1 h2
      cases hc
      exact store_heap heq hn h1 h2 hE hS h
    · cases hc
  case h_13 src dst x heq =>
    split at hc
    · rename_i d k y hs hd h1; cases hc; simp [evW] at h
    · rename_i k y hs hd h1; cases hc; simp [evW] at h
    · rename_i y hs hd h1; cases hc; simp [evW] at h
    · rename_i el y hs hd h1
      split at hc
      · rename_i he; cases hc; exact s2b_heap heq h1 ⟨hs, el, hd, he⟩ hE hS h
      · cases hc
    · rename_i el y hs hd h1
      split at hc
      · cases hc; simp [evW] at h
      · cases hc; simp [evW] at h
      · cases hc
    · rename_i el e2 y hs hd h1
      split at hc
      · rename_i hsd he; cases hc; exact mark_heap heq h1 ⟨by simpa using hsd, e2, hd, he⟩ hE hS h
      · cases hc
    · cases hc
  case h_25 args ts heq =>
    split at hc
    · rename_i x y t u ha hts
      have zero : ∀ {el : TypeId} {i : TypeInfo} {zs : List AV}, P.info? el = some i → zeroCells' P el = some zs → zs.length = i.size → ∃ z, i.zero = some z ∧ z.cells.size = i.size := by
        intro el i zs hi hz hl
        unfold zeroCells' zeroOf at hz
        obtain ⟨zv, hz1, rfl⟩ := Option.map_eq_some_iff.1 hz
        split at hz1
        · rename_i z hzz
          obtain ⟨it, hit, hz2⟩ := Option.bind_eq_some_iff.1 hzz
          rw [hi] at hit
          cases hit
          have hzr : RelL G (zcells zv) z.cells.toList := toAVa_cells hz1
          exact ⟨z, hz2, by have := hzr.length; simp at this; omega⟩
        · cases hz1
      split at hc
      · rename_i el e2 x' y' hu hu2 h1 h2
        split at hc
        · rename_i i zs hi hz
          split at hc
          · rename_i hcond
            cases hc
            obtain ⟨z, z1, z2⟩ := zero hi hz hcond.2
            exact app_heap heq ha hts hu (.inl ⟨e2, hu2⟩) hi z1 z2 hcond.1 h1 h2 hE hS h
          · cases hc
        · cases hc
      · rename_i el x' y' hu hu2 h1 h2
        split at hc
        · rename_i i zs hi hz
          split at hc
          · rename_i hcond
            cases hc
            obtain ⟨z, z1, z2⟩ := zero hi hz hcond.2
            exact app_heap heq ha hts hu (.inr hu2) hi z1 z2 hcond.1 h1 h2 hE hS h
          · cases hc
        · cases hc
      · cases hc
    · cases hc
  case h_26 args ts heq =>
    split at hc
    · rename_i x y t u ha hts
      split at hc
      · rename_i el e2 x' y' hu hu2 h1 h2
        split at hc
        · rename_i n hn
          cases hc
          exact cpy_heap heq ha hts hu (.inl ⟨e2, hu2⟩) hn (by omega) h1 h2 hE hS h
        · cases hc
      · rename_i el x' y' hu hu2 h1 h2
        split at hc
        · rename_i n hn
          cases hc
          exact cpy_heap heq ha hts hu (.inr hu2) hn (by omega) h1 h2 hE hS h
        · cases hc
      · cases hc
    · cases hc
  case h_28 t l c heq =>
    split at hc
    · rename_i el hu
      split at hc
      · rename_i i zs x y hi hz h1 h2
        split at hc
        · rename_i hcond
          cases hc
          exact mks_heap heq hu hi hz hcond.1 hcond.2 h1 h2 hE hS h
        · cases hc
      · cases hc
    · cases hc
  case h_29 t x heq =>
    split at hc
    · rename_i hu
      obtain ⟨y, h1, rfl⟩ := cOpd_map hc
      exact rng_heap heq hu h1 hE hS h
    · cases hc
  case h_30 x heq =>
    obtain ⟨y, h1, rfl⟩ := cOpd_map hc
    exact nxt_heap heq h1 hE hS h
  case h_31 => cases hc
  all_goals
    exfalso
    revert hc
    repeat' split
    all_goals first
      | (intro hc; cases hc; simp [evW] at h; done)
      | (intro hc; obtain ⟨_, _, rfl⟩ := Option.map_eq_some_iff.1 hc; simp [evW] at h; done)
      | (intro hc; cases hc; done)

/-! ### What is handed to a call -/
theorem freeze_sound {n : Nat} {x x' : AV} {s' : St} {v : Value} (h : freeze n s x = some (x', s')) (hx : RelV G x v) (hS : RelS G w0 s w) : ∃ G', G.le G' ∧ RelV G' x' v ∧ RelS G' w0 s' w := by
  by_cases hh : ∃ z b o k, x = .hs z b o k
  · obtain ⟨z, b, o, k, rfl⟩ := hh
    simp only [freeze] at h
    split at h
    · rename_i z0 cs hb
      split at h
      · rename_i hcond
        cases h
        cases hx with
        | hs _ _ _ _ g cap L hrho hlim hn hc hm =>
          obtain ⟨g', cur, E, vs, G', q1, q2, q3, q4, q5, q6⟩ := hS.freeze hb (hS.resF hrho)
          rw [hrho] at q1
          cases q1
          refine ⟨G', q3, .sl _ _ _ _ _ _ ((vs.drop o).take (k * n)) (((q4.drop o).take _).mono q3) (fun j u hu => ?_) hn hm trivial, q6⟩
          rw [List.getElem?_take] at hu
          split at hu
          · rw [List.getElem?_drop] at hu; exact q5 _ _ hu
          · cases hu
      · cases h
    · rename_i z0 cs hb
      split at h
      · rename_i hcond
        cases h
        cases hx with
        | hs _ _ _ _ g cap L hrho hlim hn hc hm =>
          obtain ⟨g', vs, q1, q4, q5⟩ := hS.froz hb (hS.resF hrho)
          rw [hrho] at q1
          cases q1
          refine ⟨G, Gh.le_refl G, .sl _ _ _ _ _ _ ((vs.drop o).take (k * n)) ((q4.drop o).take _) (fun j u hu => ?_) hn hm trivial, hS⟩
          rw [List.getElem?_take] at hu
          split at hu
          · rw [List.getElem?_drop] at hu; exact q5 _ _ hu
          · cases hu
      · cases h
    · cases h
  · have : freeze n s x = some (x, s) := by
      cases x <;> first | rfl | exact absurd ⟨_, _, _, _, rfl⟩ hh
    rw [this] at h
    cases h
    exact ⟨G, Gh.le_refl G, hx, hS⟩

theorem RelT.mono' {G G' : Gh} (hG : G.le G') {as : List AV} {vs : List Value} (x : RelT G as vs) : RelT G' as vs := RelT.mono hG x

theorem freezeL_sound {args : List Operand} : ∀ {ts : List TypeId} {l : List (Nat × Opd)} {G : Gh} {s s' : St} {vs : List AV}, cArgs P args ts = some l → freezeL gl e s l = some (vs, s') → RelE G gl e a → RelS G w0 s w →
    ∃ G', G.le G' ∧ RelT G' vs (args.map a.eval) ∧ RelS G' w0 s' w := by
  induction args with
  | nil =>
    intro ts l G s s' vs hc h hE hS
    simp only [cArgs] at hc
    cases hc
    simp only [freezeL] at h
    cases h
    exact ⟨G, Gh.le_refl G, .nil, hS⟩
  | cons x xs ih =>
    intro ts l G s s' vs hc h hE hS
    simp only [cArgs] at hc
    split at hc
    · rename_i y ys h1 h2
      cases hc
      simp only [freezeL] at h
      split at h
      · rename_i v s1 hf
        split at h
        · rename_i vs' s2 hl
          cases h
          obtain ⟨G1, q1, q2, q3⟩ := freeze_sound hf (hE.opd h1) hS
          obtain ⟨G2, p1, p2, p3⟩ := ih h2 hl (hE.mono q1) q3
          exact ⟨G2, q1.trans p1, .cons _ _ _ _ (q2.mono p1) p2, p3⟩
        · cases h
      · cases h
    · cases hc

/-- Every call that is answered is one that the machine makes. -/
structure CallOk (P : Program) (gl : Nat → AV) (w0 : World) (call : Calls') : Prop where
  there : ∀ f args s v s', call f args s = some (v, s') → ∃ fn, P.funcs[f]? = some fn ∧ fn.body.isSome = true ∧ (fn.name == "runtime.NumGoroutine") = false
  goes : ∀ f args s v s' G w vals, call f args s = some (v, s') → RelT G args vals → RelS G w0 s w → (∀ g, RelV G (gl g) (.pointer (some ⟨g, 0, none⟩))) →
    Calls P f vals.toArray w fun e w' => ∃ G' v', G.le G' ∧ e = .returned v' ∧ RelV G' v v' ∧ RelS G' w0 s' w'

theorem op_sound {ht : List TypeId} {o : Oper} {m : MOp} {v : AV} {s' : St} {n : Nat} {call : Calls'} (hcall : CallOk P gl w0 call) (hc : cOp P (eqOks P) ht o = some m) (hE : RelE G gl e a) (hS : RelS G w0 s w)
    (h : ev1 gl call e s m = some (v, s', n)) {K : Act → World → Prop} {Q : Exit → Act → World → Prop}
    (hK : ∀ G' v' w', G.le G' → RelV G' v v' → RelS G' w0 s' w' → K (a.put o.dst v') w') : o.wp P a w K Q := by
  have ok : OpOk P G w0 w a o v s' → o.wp P a w K Q := by
    rintro ⟨G', v', w', nx, h1, h2, h3, h4, h5⟩
    unfold Oper.wp
    rw [h2]
    rcases h3 with rfl | ⟨rfl, rfl⟩
    · exact hK G' v' w' h1 h4 h5
    · exact hK G' undef w' h1 h4 h5
  unfold ev1 at h
  split at h
  · rename_i v0 hp
    cases h
    obtain ⟨v', h1, h2⟩ := opP_sound hc hE hS.immW hp
    exact ok (OpOk.val (Gh.le_refl G) h1 h2 hS)
  · split at h
    · rename_i hp v0 hr
      cases h
      exact ok (opR_sound hc hE hS hr)
    · split at h
      · split at h
        · rename_i vs s1 hf
          split at h
          · rename_i v0 s2 hcl
            cases h
            -- a call
            unfold cOp at hc
            split at hc
            case h_27 f' args' ts heq =>
              obtain ⟨l, hl, hq⟩ := Option.map_eq_some_iff.1 hc
              injection hq with hq1 hq2
              subst hq1; subst hq2
              obtain ⟨G1, q1, q2, q3⟩ := freezeL_sound hl hf hE hS
              obtain ⟨fn, f1, f2, f3⟩ := hcall.there _ _ _ _ _ hcl
              have hrun : (execOp a.eval o).run P w = .ok (.enter f' (args'.toList.map a.eval).toArray) w := by
                simp only [execOp, heq]
                have f3' : ¬ fn.name = "runtime.NumGoroutine" := by simpa using f3
                have hbn' : ¬ fn.body = none := by intro hb; rw [hb] at f2; cases f2
                simp [resolve, Deferred.ofValue, Act.eval, invoke, callFunc, f1, f3', hbn']
                apply Array.ext'
                simp
              unfold Oper.wp
              rw [hrun, Oper.upon_enter]
              refine (hcall.goes _ _ _ _ _ _ _ _ hcl q2 q3 (fun g => (hE.glob g).mono q1)).mono ?_
              rintro e' w' ⟨G', v', p1, rfl, p3, p4⟩
              exact hK G' v' w' (q1.trans p1) p3 p4
            all_goals
              exfalso
              revert hc
              repeat' split
              all_goals first
                | (intro hc; cases hc; done)
                | (intro hc; obtain ⟨_, _, hq⟩ := Option.map_eq_some_iff.1 hc; cases hq; done)
          · cases h
        · cases h
      · split at h
        · rename_i v0 s2 hw
          cases h
          exact ok (opW_sound hc hE hS hw)
        · cases h

/-! ### Regions -/
theorem cIns_parts {ht : List TypeId} {ops : Array Oper} {o : Oper} {i : MIns} (h : cIns P (eqOks P) ht ops o = some i) :
    cOp P (eqOks P) ht o = some i.op ∧ i.dst = o.dst ∧ ((o.guard = none ∧ i.guard = none) ∨ ∃ j b d, o.guard = some (j, b) ∧ (ops[j]?).bind (·.dst) = some d ∧ i.guard = some (d, b)) := by
  unfold cIns at h
  split at h
  · rename_i m hm
    split at h
    · rename_i hg
      cases h
      exact ⟨hm, rfl, .inl ⟨hg, rfl⟩⟩
    · rename_i j b hg
      split at h
      · rename_i d hd
        cases h
        exact ⟨hm, rfl, .inr ⟨j, b, d, hg, hd, rfl⟩⟩
      · cases h
  · cases h
/-- Whether an operation is wanted: the frame says what the evaluator says. -/
theorem guard_sound {ops : Array Oper} {o : Oper} {i : MIns} {α : Type} {x y : Option α} {r : α} (hE : RelE G gl e a)
    (hg : (o.guard = none ∧ i.guard = none) ∨ ∃ j b d, o.guard = some (j, b) ∧ (ops[j]?).bind (·.dst) = some d ∧ i.guard = some (d, b)) (h : guardR e i.guard x y = some r) :
    (Region.wanted o (yielded ops a.tmps) = true ∧ x = some r) ∨ (Region.wanted o (yielded ops a.tmps) = false ∧ y = some r) := by
  rcases hg with ⟨h1, h2⟩ | ⟨j, b, d, h1, h2, h3⟩
  · rw [h2] at h
    exact .inl ⟨by simp [Region.wanted, h1], h⟩
  · rw [h3] at h
    simp only [guardR] at h
    split at h
    · rename_i c hc
      have hr := hE.at_ d
      rw [hc] at hr
      have hv : a.tmps.getD d undef = .bool c := by
        generalize a.tmps.getD d undef = q at hr
        cases hr; rfl
      have hv' : a.tmps[d]? = some (.bool c) := by
        rw [Array.getD_eq_getD_getElem?] at hv
        cases hq : a.tmps[d]? with
        | none => rw [hq] at hv; cases hv
        | some q => rw [hq] at hv; simp at hv; rw [hv]
      have hy : yielded ops a.tmps j = some c := by simp [yielded, h2, hv']
      split at h
      · rename_i hcb
        exact .inl ⟨by simp only [Region.wanted, h1, hy]; simpa using hcb, h⟩
      · rename_i hcb
        exact .inr ⟨by simp only [Region.wanted, h1, hy]; simpa using hcb, h⟩
    · rename_i hc
      have hr := hE.at_ d
      rw [hc] at hr
      have hv : a.tmps.getD d undef = .tuple #[] := by
        generalize a.tmps.getD d undef = q at hr
        cases hr with
        | tup _ vs h' =>
          obtain ⟨l⟩ := vs
          cases h'
          rfl
      have hv' : a.tmps[d]? = none ∨ a.tmps[d]? = some (.tuple #[]) := by
        rw [Array.getD_eq_getD_getElem?] at hv
        cases hq : a.tmps[d]? with
        | none => exact .inl rfl
        | some q => rw [hq] at hv; simp at hv; rw [hv]; exact .inr rfl
      have hy : yielded ops a.tmps j = none := by
        rcases hv' with hv' | hv' <;> simp [yielded, h2, hv']
      exact .inr ⟨by simp only [Region.wanted, h1, hy]; rfl, h⟩
    · cases h

theorem put_defers (a : Act) (d : Option Nat) (v : Value) : (a.put d v).defers = a.defers := by cases d <;> rfl

theorem evOps_sound {ht : List TypeId} {ops : Array Oper} {call : Calls'} (hcall : CallOk P gl w0 call) {e' : Env} {s' : St} {Q : Exit → Act → World → Prop} : ∀ (is : List MIns) (k : Nat) (G : Gh) (e : Env) (s : St) (a : Act) (w : World),
    cInss P (eqOks P) ht ops (ops.toList.drop k) = some is → evOps gl call is e s = some (e', s') → RelE G gl e a → RelS G w0 s w →
    (∀ G' a' w', G.le G' → RelE G' gl e' a' → RelS G' w0 s' w' → a'.defers = a.defers → Q .normal a' w') → wpOps P ops Q (List.range' k (ops.size - k)) a w := by
  intro is
  induction is with
  | nil =>
    intro k G e s a w hc h hE hS hQ
    have hk : ops.size ≤ k := by
      cases hd : ops.toList.drop k with
      | nil => simpa using List.drop_eq_nil_iff.1 hd
      | cons o os => rw [hd] at hc; simp only [cInss] at hc; split at hc <;> cases hc
    rw [show ops.size - k = 0 by omega]
    simp only [evOps] at h
    cases h
    exact hQ G a w (Gh.le_refl G) hE hS rfl
  | cons i is ih =>
    intro k G e s a w hc h hE hS hQ
    cases hd : ops.toList.drop k with
    | nil => rw [hd] at hc; simp only [cInss] at hc; cases hc
    | cons o os =>
      rw [hd] at hc
      simp only [cInss] at hc
      split at hc
      · rename_i i0 is0 hi his
        cases hc
        have hk : k < ops.size := by
          rcases Nat.lt_or_ge k ops.size with h' | h'
          · exact h'
          · rw [List.drop_eq_nil_of_le (by simpa using h')] at hd; cases hd
        have ho : ops[k]? = some o := by
          have : (ops.toList.drop k)[0]? = some o := by rw [hd]; rfl
          simpa using this
        have hos : ops.toList.drop (k + 1) = os := by
          have : (ops.toList.drop k).drop 1 = os := by rw [hd]; rfl
          simpa [List.drop_drop] using this
        rw [show ops.size - k = (ops.size - (k + 1)) + 1 by omega, List.range'_succ]
        obtain ⟨h1, h2, h3⟩ := cIns_parts hi
        simp only [evOps] at h
        simp only [wpOps, ho]
        rcases guard_sound hE h3 h with ⟨hw, hx⟩ | ⟨hw, hx⟩
        · rw [if_pos hw]
          left
          unfold opR at hx
          split at hx
          · rename_i v s1 n hev
            refine op_sound hcall h1 hE hS hev (fun G' v' w' hG hv hs => ?_)
            refine ih (k + 1) G' _ _ _ _ (by rw [hos]; exact his) hx ?_ hs (fun G2 a2 w2 g1 g2 g3 g4 => hQ G2 a2 w2 (hG.trans g1) g2 g3 (by rw [g4, put_defers]))
            rw [h2]
            exact (hE.mono hG).put o.dst hv
          · cases hx
        · rw [if_neg (by rw [hw]; simp)]
          refine ih (k + 1) G _ _ _ _ (by rw [hos]; exact his) hx ?_ hS (fun G2 a2 w2 g1 g2 g3 g4 => hQ G2 a2 w2 g1 g2 g3 (by rw [g4, put_defers]))
          rw [h2]
          exact hE.put o.dst (.tup [] #[] .nil)
      · cases hc

end
end Go.Ab
