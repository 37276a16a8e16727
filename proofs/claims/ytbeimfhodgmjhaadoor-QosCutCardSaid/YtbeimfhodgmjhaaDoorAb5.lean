/- The evaluator's operations on values answer as the machine's do. No conditions. -/
import Derived.Test.YtbeimfhodgmjhaaDoorAb4
import Derived.WalkKit
import Derived.Laws.Strings
import Derived.Deep.AppendSrc
import Derived.Laws.BytesString
import Derived.Laws.Cover4
import Derived.Great.BuildSlice
import Derived.Laws.MakeOwn
import Derived.Laws.RangeAny
set_option linter.unusedSimpArgs false
set_option linter.unusedVariables false
namespace Go.Ab
open Go

/-- A scalar, as the machine has it. -/
def conc : AV → Value
  | .int k n => .int k n
  | .bool b => .bool b
  | .str l => .string ⟨l.toArray⟩
  | _ => undef

section
variable {P : Program} {G : Gh} {w : World}

theorem binI_sound {op : BinOp} {k : IntKind} {a b : Int} {v : AV} (t : TypeId) (h : binI op k a b = some v) (hs : op ≠ .shl ∧ op ≠ .shr) :
    ∃ v', (binOp op t (.int k a) (.int k b)).run P w = .ok v' w ∧ RelV G v v' := by
  refine ⟨conc v, ?_⟩
  cases op <;> simp only [binI] at h <;> first
    | (exact absurd rfl hs.1) | (exact absurd rfl hs.2)
    | (cases h; done)
    | (split at h
       · cases h
       · rename_i hb
         cases h
         exact ⟨by simp [conc, binOp, Op.intDiv, hb, Sem.run], .int _ _⟩)
    | (cases h
       exact ⟨by simp [conc, binOp, Op.intArith, Op.intBits, Op.intCmp, Sem.run], by first | exact .int _ _ | exact .bool _⟩)

theorem shI_sound {op : BinOp} {k k' : IntKind} {a b : Int} {v : AV} (t : TypeId) (h : shI op k a b = some v) :
    ∃ v', (binOp op t (.int k a) (.int k' b)).run P w = .ok v' w ∧ RelV G v v' := by
  refine ⟨conc v, ?_⟩
  unfold shI at h
  split at h
  · cases h
  · rename_i hb
    cases op <;> simp only at h <;> first
      | (cases h; done)
      | (cases h
         exact ⟨by simp [conc, binOp, Op.shift, hb, Sem.run], .int _ _⟩)

theorem binS_sound {op : BinOp} {a b : ByteArray} {v : AV} (t : TypeId) (h : binS op a.data.toList b.data.toList = some v) :
    ∃ v', (binOp op t (.string a) (.string b)).run P w = .ok v' w ∧ RelV G v v' := by
  cases op <;> simp only [binS] at h <;> first
    | (cases h; done)
    | (split at h
       · rename_i hl
         cases h
         have hl' : ¬ ((a.size + b.size : Nat) : Int) > IntKind.i64.max := by
           have h1 : IntKind.i64.max = 9223372036854775807 := by decide
           have h2 : a.data.toList.length = a.size := by simp
           have h3 : b.data.toList.length = b.size := by simp
           rw [h1]; omega
         refine ⟨.string (a ++ b), by simp only [binOp, Op.stringOp]; rw [if_neg hl']; rfl, ?_⟩
         have : (a ++ b).data.toList = a.data.toList ++ b.data.toList := by simp
         rw [← this]; exact .str _
       · cases h)
    | (refine ⟨conc v, ?_⟩
       cases h
       exact ⟨by simp [conc, binOp, Op.stringOp, ByteArray.toList_eq, Sem.run], .bool _⟩)

theorem binV_sound {op : BinOp} {x y v : AV} {x' y' : Value} (t : TypeId) (h : binV op x y = some v) (hx : RelV G x x') (hy : RelV G y y') :
    ∃ v', (binOp op t x' y').run P w = .ok v' w ∧ RelV G v v' := by
  cases hx <;> cases hy <;> simp only [binV] at h <;> first
    | (cases h; done)
    | exact binS_sound t h
    | (split at h
       · exact shI_sound t h
       · exact shI_sound t h
       · rename_i h1 h2
         split at h
         · rename_i e
           subst e
           exact binI_sound t h ⟨fun e => h1 e, fun e => h2 e⟩
         · cases h)

theorem unV_sound {op : UnOp} {x v : AV} {x' : Value} (h : unV op x = some v) (hx : RelV G x x') :
    ∃ v', (Op.unary op x').run P w = .ok v' w ∧ RelV G v v' := by
  refine ⟨conc v, ?_⟩
  cases hx <;> cases op <;> simp only [unV] at h <;> first
    | (cases h; done)
    | (cases h
       exact ⟨by simp [conc, Op.unary, Op.intArith, Op.intBits, Sem.run], by first | exact .int _ _ | exact .bool _⟩)


/-! ### Conversions -/
theorem addr_add (g o j : Nat) : (⟨g, o, none⟩ : Addr).add j = ⟨g, o + j, none⟩ := by unfold Addr.add; split <;> simp_all
/-- What never turns is there. -/
def ImmW (G : Gh) (w : World) : Prop := ∀ g o v, G.imm g o = some v → w.cell? ⟨g, o, none⟩ = some v ∧ v.oneCell' = true
theorem RelS.immW {w0 : World} {s : St} (h : RelS G w0 s w) : ImmW G w := by obtain ⟨pl, h⟩ := h; exact h.imm
theorem imm_reads (h : ImmW G w) {g o : Nat} {vs : List Value} (hi : ∀ j v, vs[j]? = some v → G.imm g (o + j) = some v) : ∀ j v, vs[j]? = some v → w.cell? ((⟨g, o, none⟩ : Addr).add j) = some v :=
  fun j v hv => by rw [addr_add]; exact (h _ _ _ (hi j v hv)).1

theorem toBytes_sound {cs : List AV} {vs : List Value} {l : List UInt8} (h : toBytes cs = some l) (hr : RelL G cs vs) : ∃ ns : List Int, vs = ns.map (Value.int .u8) ∧ l = ns.map fun n => UInt8.ofNat n.toNat := by
  induction cs generalizing vs l with
  | nil => cases hr; simp only [toBytes] at h; cases h; exact ⟨[], rfl, rfl⟩
  | cons a as ih =>
    cases hr with
    | cons _ v _ us h' h1 t =>
      simp only [toBytes] at h
      split at h
      · rename_i b l' hb hl'
        cases h
        obtain ⟨ns, e1, e2⟩ := ih hl' t
        cases h' <;> (try simp only [toByte] at hb) <;> try (cases hb; done)
        rename_i k n
        cases k <;> (try simp only [toByte] at hb) <;> try (cases hb; done)
        cases hb
        exact ⟨n :: ns, by simp [e1], by simp [e2]⟩
      · cases h
theorem foldl_push (ns : List Int) (s : ByteArray) : (ns.foldl (fun r n => r.push (UInt8.ofNat n.toNat)) s).data.toList = s.data.toList ++ ns.map fun n => UInt8.ofNat n.toNat := by
  induction ns generalizing s with
  | nil => simp
  | cons n ns ih => simp only [List.foldl_cons, ih, List.map_cons]; simp [ByteArray.push]
theorem runes_sound {cs : List AV} {vs : List Value} {l : List UInt8} (h : runes cs = some l) (hr : RelL G cs vs) : ∃ ns : List Int, vs = ns.map (Value.int .i32) ∧ l = ns.flatMap fun n => (Utf8.encode n).data.toList := by
  induction cs generalizing vs l with
  | nil => cases hr; simp only [runes] at h; cases h; exact ⟨[], rfl, rfl⟩
  | cons a as ih =>
    cases hr with
    | cons _ v _ us h' h1 t =>
      cases h' <;> (try simp only [runes] at h) <;> try (cases h; done)
      rename_i k n
      cases k <;> (try simp only [runes] at h) <;> try (cases h; done)
      split at h
      · rename_i l' hl'
        cases h
        obtain ⟨ns, e1, e2⟩ := ih hl' t
        exact ⟨n :: ns, by simp [e1], by simp [e2]⟩
      · cases h
theorem foldl_runes (ns : List Int) (s : ByteArray) : (ns.foldl (fun r n => r ++ Utf8.encode n) s).data.toList = s.data.toList ++ ns.flatMap fun n => (Utf8.encode n).data.toList := by
  induction ns generalizing s with
  | nil => simp
  | cons n ns ih => simp only [List.foldl_cons, ih, List.flatMap_cons]; simp

theorem bytes_run {g o n cap : Nat} {vs : List Value} {ns : List Int} (hv : vs = ns.map (Value.int .u8)) (hn : vs.length = n)
    (hr : ∀ j v, vs[j]? = some v → w.cell? ((⟨g, o, none⟩ : Addr).add j) = some v) :
    ∃ s : ByteArray, (Conv.bytesToString (.slice (some ⟨g, o, none⟩) n cap)).run P w = .ok (.string s) w ∧ s.data.toList = ns.map fun n => UInt8.ofNat n.toNat := by
  have hl := run_loadCells_list (P := P) w ⟨g, o, none⟩ vs hr
  rw [hn] at hl
  exact ⟨_, run_bytesToString w _ n cap ns (by rw [hl, hv]), by rw [foldl_push]; simp⟩

def ConvAt (P : Program) (src dst : TypeId) : Cv → Prop
  | .toInt k => P.underlying dst = some (.int k)
  | .same => P.underlying src = some .string ∧ P.underlying dst = some .string
  | .itos => P.underlying dst = some .string
  | .b2s => ∃ e, P.underlying src = some (.slice e) ∧ P.underlying dst = some .string ∧ P.underlying e = some (.int .u8)
  | .r2s => ∃ e, P.underlying src = some (.slice e) ∧ P.underlying dst = some .string ∧ P.underlying e = some (.int .i32)
  | .s2b => P.underlying src = some .string ∧ ∃ e, P.underlying dst = some (.slice e) ∧ P.underlying e = some (.int .u8)
  | .s2r => False
  | .mark => src = dst ∧ ∃ e, P.underlying dst = some (.slice e) ∧ P.underlying e = some (.int .u8)
theorem convP_sound {c : Cv} {x v : AV} {x' : Value} (src dst : TypeId) (hI : ImmW G w) (h : convP c x = some v) (hx : RelV G x x')
    (hc : ConvAt P src dst c) (hs : ∃ d, P.underlying src = some d) :
    ∃ v', (convert src dst x').run P w = .ok v' w ∧ RelV G v v' := by
  obtain ⟨d, hs⟩ := hs
  cases c with
  | toInt k =>
    have hc : P.underlying dst = some (.int k) := hc
    cases hx <;> simp only [convP] at h <;> try (cases h; done)
    cases h
    exact ⟨.int k _, by simp [convert, run_underlying hc, run_underlying hs, Conv.intToInt], .int _ _⟩
  | same =>
    obtain ⟨h1, h2⟩ := hc
    cases hx <;> simp only [convP] at h <;> try (cases h; done)
    cases h
    exact ⟨_, by simp [convert, run_underlying h1, run_underlying h2], .str _⟩
  | itos =>
    have hc : P.underlying dst = some .string := hc
    cases hx <;> simp only [convP] at h <;> try (cases h; done)
    cases h
    exact ⟨_, by simp [convert, run_underlying hc, run_underlying hs, Conv.intToString], .str _⟩
  | b2s =>
    obtain ⟨e, h1, h2, h3⟩ := hc
    cases hx <;> simp only [convP] at h <;> try (cases h; done)
    · cases h
      exact ⟨.string .empty, by rw [run_convert_bytes_string w src dst e none 0 0 h1 h3 h2]; rfl, .str .empty⟩
    · rename_i cs n tk g o cap vs hl hi hn hcap ht
      split at h
      · rename_i hlen
        obtain ⟨l, hl', rfl⟩ := Option.map_eq_some_iff.1 h
        obtain ⟨ns, e1, e2⟩ := toBytes_sound hl' hl
        obtain ⟨s, hs1, hs2⟩ := bytes_run (P := P) (cap := cap) e1 (by rw [← hl.length, hlen]) (imm_reads hI hi)
        refine ⟨_, by rw [run_convert_bytes_string w src dst e _ n cap h1 h3 h2]; exact hs1, ?_⟩
        rw [e2, ← hs2]; exact .str _
      · cases h
  | r2s =>
    obtain ⟨e, h1, h2, h3⟩ := hc
    cases hx <;> simp only [convP] at h <;> try (cases h; done)
    · cases h
      exact ⟨.string .empty, by simp [convert, run_underlying h1, run_underlying h2, run_underlying h3, Conv.runesToString], .str .empty⟩
    · rename_i cs n tk g o cap vs hl hi hn hcap ht
      split at h
      · rename_i hlen
        obtain ⟨l, hl', rfl⟩ := Option.map_eq_some_iff.1 h
        obtain ⟨ns, e1, e2⟩ := runes_sound hl' hl
        have hld := run_loadCells_list (P := P) w ⟨g, o, none⟩ vs (imm_reads hI hi)
        rw [← hl.length, hlen] at hld
        have hr := run_runesToString (P := P) w ⟨g, o, none⟩ n cap ns (by rw [hld, e1])
        refine ⟨_, by simp [convert, run_underlying h1, run_underlying h2, run_underlying h3]; exact hr, ?_⟩
        rw [e2]
        have := foldl_runes ns ByteArray.empty
        have h0 : (runesBytes ns).data.toList = ns.flatMap fun n => (Utf8.encode n).data.toList := by unfold runesBytes; rw [this]; simp
        rw [← h0]; exact .str _
      · cases h
  | _ => cases hx <;> simp only [convP] at h <;> cases h

/-! ### Slices -/
theorem idx_sound {n : Nat} {i : AV} {i' : Value} {j : Nat} (h : idx n i = some j) (hi : RelV G i i') : ∃ k z, i' = .int k z ∧ 0 ≤ z ∧ z < n ∧ z.toNat = j := by
  cases hi <;> simp only [idx] at h <;> try (cases h; done)
  split at h
  · rename_i hz; cases h; exact ⟨_, _, rfl, hz.1, hz.2, rfl⟩
  · cases h
theorem bnd_sound {n : Nat} {i : AV} {i' : Value} {j : Nat} (code : BoundsCode) (h : bnd n i = some j) (hi : RelV G i i') : j ≤ n ∧ (Instr.sliceBound i' n code).run P w = .ok j w := by
  cases hi <;> simp only [bnd] at h <;> try (cases h; done)
  split at h
  · rename_i hz
    cases h
    refine ⟨by omega, ?_⟩
    simp [Instr.sliceBound, asIntOf, hz]
  · cases h
inductive RelO (G : Gh) : Option AV → Option Value → Prop
  | none : RelO G none none
  | some (a : AV) (v : Value) (h : RelV G a v) : RelO G (some a) (some v)
/-- The bounds of a slice: what they come to, where the high one is at most the length. -/
theorem bounds_sound {isSlice : Bool} {n cap h l : Nat} {lo hi : Option AV} {lo' hi' : Option Value} (hn : n ≤ cap) (hh : bndO n n hi = some h) (hl : bndO 0 h lo = some l)
    (rl : RelO G lo lo') (rh : RelO G hi hi') : l ≤ h ∧ h ≤ n ∧ (Instr.sliceBounds isSlice n cap lo' hi' none).run P w = .ok (l, h, cap) w := by
  have key : ∀ (code : BoundsCode) {n' : Nat} {a : AV} {v : Value} {j : Nat}, bnd n a = some j → RelV G a v → n ≤ n' → (Instr.sliceBound v n' code).run P w = .ok j w := by
    intro code n' a v j hb hr hn'
    cases hr <;> simp only [bnd] at hb <;> try (cases hb; done)
    split at hb
    · rename_i hz
      cases hb
      simp [Instr.sliceBound, asIntOf, hz.1, Int.le_trans hz.2 (Int.ofNat_le.2 hn')]
    · cases hb
  have hle : h ≤ n := by
    cases rh with
    | none => simp only [bndO] at hh; cases hh; exact Nat.le_refl _
    | some a v hr => exact (bnd_sound (P := P) (w := w) .index hh hr).1
  have lle : l ≤ h := by
    cases rl with
    | none => simp only [bndO] at hl; cases hl; exact Nat.zero_le _
    | some a v hr => exact (bnd_sound (P := P) (w := w) .index hl hr).1
  refine ⟨lle, hle, ?_⟩
  cases rh with
  | none =>
    simp only [bndO] at hh
    cases hh
    cases rl with
    | none => simp only [bndO] at hl; cases hl; simp [Instr.sliceBounds]
    | some a v hr =>
      have := (bnd_sound (P := P) (w := w) .sliceB hl hr).2
      simp [Instr.sliceBounds, this]
  | some b u hb =>
    have h1 := key (if isSlice then .sliceAcap else .sliceAlen) hh hb hn
    cases rl with
    | none => simp only [bndO] at hl; cases hl; simp [Instr.sliceBounds, h1]
    | some a v hr =>
      have h2 := (bnd_sound (P := P) (w := w) .sliceB hl hr).2
      simp [Instr.sliceBounds, h1, h2]

theorem add_mul_eq {a o l z : Nat} : (⟨a, o, none⟩ : Addr).add (l * z) = ⟨a, o + l * z, none⟩ := addr_add _ _ _
theorem slcS_sound {s : ByteArray} {v : AV} {lo hi : Option AV} {lo' hi' : Option Value} (t : TypeId) (h : slcS (.str s.data.toList) lo hi = some v)
    (rl : RelO G lo lo') (rh : RelO G hi hi') (ht : P.underlying t = some .string) :
    ∃ v', (Instr.sliceAt t (.string s) lo' hi' none).run P w = .ok v' w ∧ RelV G v v' := by
  simp only [slcS] at h
  split at h
  · rename_i h' hh
    split at h
    · rename_i l hl
      cases h
      have hsz : s.data.toList.length = s.size := by simp
      rw [hsz] at hh
      obtain ⟨h1, h2, h3⟩ := bounds_sound (P := P) (w := w) (isSlice := false) (Nat.le_refl _) hh hl rl rh
      refine ⟨.string (s.extract l h'), by simp [Instr.sliceAt, Instr.slice, run_underlying ht, h3], ?_⟩
      have : (s.extract l h').data.toList = (s.data.toList.take h').drop l := by
        simp [ByteArray.extract, ByteArray.copySlice, List.drop_take]
      rw [← this]; exact .str _
    · cases h
  · cases h
theorem slcV_slice {x v : AV} {x' : Value} {lo hi : Option AV} {lo' hi' : Option Value} {size : Nat} (t e : TypeId) (i : TypeInfo) (h : slcV size x lo hi = some v) (hx : RelV G x x')
    (rl : RelO G lo lo') (rh : RelO G hi hi') (ht : P.underlying t = some (.slice e)) (hi0 : P.info? e = some i) (hsz : i.size = size) :
    ∃ v', (Instr.sliceAt t x' lo' hi' none).run P w = .ok v' w ∧ RelV G v v' := by
  cases hx <;> (try simp only [slcV] at h) <;> try (cases h; done)
  · -- nil
    split at h
    · rename_i h' hh
      split at h
      · rename_i l hl
        cases h
        obtain ⟨h1, h2, h3⟩ := bounds_sound (P := P) (w := w) (isSlice := true) (Nat.le_refl 0) hh hl rl rh
        have e1 : h' = 0 := by omega
        have e2 : l = 0 := by omega
        subst e1; subst e2
        exact ⟨.slice none 0 0, by simp [Instr.sliceAt, Instr.slice, run_underlying ht, h3, sizeOf, typeInfo, hi0], .nils⟩
      · cases h
    · cases h
  · rename_i cs n tk g o cap vs hl hi hn hcap htk
    split at h
    · rename_i h' hh
      split at h
      · rename_i l hl'
        cases h
        obtain ⟨h1, h2, h3⟩ := bounds_sound (P := P) (w := w) (isSlice := true) hn hh hl' rl rh
        have hrun : (Instr.sliceAt t (.slice (some ⟨g, o, none⟩) n cap) lo' hi' none).run P w = .ok (.slice (some (if cap = l then ⟨g, o, none⟩ else ⟨g, o + l * size, none⟩)) (h' - l) (cap - l)) w := by
          simp only [Instr.sliceAt, Instr.slice, run_underlying ht, h3, sizeOf, typeInfo, hi0, Sem.run_bind, Result.andThen_ok, Sem.run_pure, run_program, hsz, Option.map_some, addr_add]
          split <;> rfl
        refine ⟨_, hrun, ?_⟩
        by_cases hcl : cap = l
        · rw [if_pos hcl]
          have e1 : h' = l := by omega
          have hemp : (cs.take (h' * size)).drop (l * size) = [] := by rw [e1]; apply List.drop_eq_nil_of_le; rw [List.length_take]; exact Nat.min_le_left _ _
          rw [hemp]
          refine .sl _ _ _ _ _ _ [] .nil (fun j v hv => by simp at hv) (by omega) (by omega) ?_
          cases tk with
          | none => trivial
          | some p =>
            obtain ⟨b, u, z⟩ := p
            simp only [tkCut]
            split
            · rename_i hhn
              obtain ⟨k, T, q1, q0, q2, q3, q4, q5⟩ := htk
              exact ⟨k + l, T, q1, q0, q2, by omega, by omega, .inr (by omega)⟩
            · trivial
        · rw [if_neg hcl]
          refine .sl _ _ _ _ _ _ ((vs.take (h' * size)).drop (l * size)) ((hl.take _).drop _) (fun j v hv => ?_) (by omega) (by omega) ?_
          · rw [List.getElem?_drop, List.getElem?_take] at hv
            split at hv
            · have := hi _ _ hv
              rw [show o + l * size + j = o + (l * size + j) by omega]
              exact this
            · cases hv
          · cases tk with
            | none => trivial
            | some p =>
              obtain ⟨b, u, z⟩ := p
              simp only [tkCut]
              split
              · rename_i hhn
                obtain ⟨k, T, q1, q0, q2, q3, q4, q5⟩ := htk
                refine ⟨k + l, T, q1, q0, q2, by omega, by omega, ?_⟩
                rcases q5 with q5 | q5
                · exact .inl (by rw [q5, q0, hhn.2, Nat.add_mul]; omega)
                · omega
              · trivial
      · cases h
    · cases h
  · rename_i z b o n g cap L hr hlim hn hc hm
    split at h
    · rename_i h' hh
      split at h
      · rename_i l hl'
        split at h
        · rename_i hcond
          cases h
          obtain ⟨h1, h2, h3⟩ := bounds_sound (P := P) (w := w) (isSlice := true) hn hh hl' rl rh
          obtain ⟨hz, hcond⟩ := hcond
          subst hz
          have hrun : (Instr.sliceAt t (.slice (some ⟨g, o, none⟩) n cap) lo' hi' none).run P w = .ok (.slice (some ⟨g, o + l * z, none⟩) (h' - l) (cap - l)) w := by
            simp only [Instr.sliceAt, Instr.slice, run_underlying ht, h3, sizeOf, typeInfo, hi0, Sem.run_bind, Result.andThen_ok, Sem.run_pure, run_program, hsz, Option.map_some, addr_add]
            split
            · rename_i e
              rcases hcond with hcond | hcond
              · subst hcond; simp
              · omega
            · rfl
          refine ⟨_, hrun, .hs _ _ _ _ _ _ _ hr hlim (by omega) ?_ (by omega)⟩
          have : l * z + (cap - l) * z = cap * z := by rw [← Nat.add_mul]; congr 1; omega
          omega
        · cases h
      · cases h
    · cases h

end
end Go.Ab
