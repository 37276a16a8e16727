/- More equations for reading the evaluator with letters in it. No conditions. -/
import Derived.Test.YtgflghhffmjojaaGreatDoorBy
import Derived.Laws.BitsLemmas
set_option linter.unusedSimpArgs false
set_option linter.unusedVariables false
namespace Go.Ab
open Go
/-! Steps whose rest is not looked at before they are answered. -/
def contR (gl : Nat → AV) (call : Calls') (d : Option Nat) (is : List MIns) (e : Env) : Option (AV × St × Nat) → Option (Env × St)
  | some (v, s, _) => evOps gl call is (e.put d v) s
  | none => none
def gdR (w : Bool) (gl : Nat → AV) (call : Calls') (d : Option Nat) (op : MOp) (is : List MIns) (e : Env) (s : St) : AV → Option (Env × St)
  | .bool c => if (c == w) = true then contR gl call d is e (ev1 gl call e s op) else evOps gl call is (e.put d (.tup [])) s
  | .tup [] => evOps gl call is (e.put d (.tup [])) s
  | _ => none
def condX (gl : Nat → AV) (call : Calls') (k : Nat) (a b : MC) (e : Env) (s : St) : AV → Out
  | .bool true => evC gl call k a e s
  | .bool false => evC gl call k b e s
  | _ => none
section
variable (gl : Nat → AV) (call : Calls') (d : Option Nat) (op : MOp) (is : List MIns) (e : Env) (s : St) (k : Nat) (a b : MC) (n i : Nat) (w : Bool) (v : AV) (l : List Rec) (s' : St)
theorem evOps_one : evOps gl call (⟨d, op, none⟩ :: is) e s = contR gl call d is e (ev1 gl call e s op) := by
  rw [evOps_cons]; simp only [guardR_none]; cases ev1 gl call e s op <;> rfl
theorem contR_some : contR gl call d is e (some (v, s, n)) = evOps gl call is (e.put d v) s := (id rfl)
theorem evOps_gd : evOps gl call (⟨d, op, some (i, w)⟩ :: is) e s = gdR w gl call d op is e s (e.at i) := by
  rw [evOps_cons, guardR_some]
  generalize e.at i = v
  cases v with
  | bool c =>
    simp only [gdR, boolR]
    split
    · cases ev1 gl call e s op <;> rfl
    · rfl
  | tup l => cases l <;> rfl
  | _ => rfl
theorem gdR_tt : gdR true gl call d op is e s (.bool true) = contR gl call d is e (ev1 gl call e s op) := (id rfl)
theorem gdR_ft : gdR true gl call d op is e s (.bool false) = evOps gl call is (e.put d (.tup [])) s := (id rfl)
theorem gdR_tf : gdR false gl call d op is e s (.bool true) = evOps gl call is (e.put d (.tup [])) s := (id rfl)
theorem gdR_ff : gdR false gl call d op is e s (.bool false) = contR gl call d is e (ev1 gl call e s op) := (id rfl)
theorem gdR_un : gdR w gl call d op is e s (.tup []) = evOps gl call is (e.put d (.tup [])) s := (id rfl)
theorem evC_condX (c : Opd) : evC gl call k (.cond c a b) e s = condX gl call k a b e s (opd gl e c) := by
  rw [evC_cond]; generalize opd gl e c = v; cases v <;> rfl
theorem condX_true : condX gl call k a b e s (.bool true) = evC gl call k a e s := (id rfl)
theorem condX_false : condX gl call k a b e s (.bool false) = evC gl call k b e s := (id rfl)
end
theorem bk_mv (gl : Nat → AV) (e : Env) {x} : blockOf gl e (.mv x) = 0 := (id rfl)
theorem bk_pick (gl : Nat → AV) (e : Env) {c a b} : blockOf gl e (.pick c a b) = 0 := (id rfl)
theorem bk_bin (gl : Nat → AV) (e : Env) {o x y} : blockOf gl e (.bin o x y) = 0 := (id rfl)
theorem bk_eqv (gl : Nat → AV) (e : Env) {n q x y} : blockOf gl e (.eqv n q x y) = 0 := (id rfl)
theorem bk_un (gl : Nat → AV) (e : Env) {o x} : blockOf gl e (.un o x) = 0 := (id rfl)
theorem bk_mki (gl : Nat → AV) (e : Env) {t x} : blockOf gl e (.mki t x) = 0 := (id rfl)
theorem bk_slc (gl : Nat → AV) (e : Env) {n x lo hi} : blockOf gl e (.slc n x lo hi) = 0 := (id rfl)
theorem bk_sls (gl : Nat → AV) (e : Env) {x lo hi} : blockOf gl e (.sls x lo hi) = 0 := (id rfl)
theorem bk_lens (gl : Nat → AV) (e : Env) {x} : blockOf gl e (.lens x) = 0 := (id rfl)
theorem bk_ixs (gl : Nat → AV) (e : Env) {x i} : blockOf gl e (.ixs x i) = 0 := (id rfl)
theorem bk_fa (gl : Nat → AV) (e : Env) {o x} : blockOf gl e (.fa o x) = 0 := (id rfl)
theorem bk_fld (gl : Nat → AV) (e : Env) {o n x} : blockOf gl e (.fld o n x) = 0 := (id rfl)
theorem bk_ixa (gl : Nat → AV) (e : Env) {n x i} : blockOf gl e (.ixa n x i) = 0 := (id rfl)
theorem bk_ixp (gl : Nat → AV) (e : Env) {l n x i} : blockOf gl e (.ixp l n x i) = 0 := (id rfl)
theorem bk_ix (gl : Nat → AV) (e : Env) {l n b x i} : blockOf gl e (.ix l n b x i) = 0 := (id rfl)
theorem bk_store (gl : Nat → AV) (e : Env) {n x v} : blockOf gl e (.store n x v) = 0 := (id rfl)
theorem bk_nchk (gl : Nat → AV) (e : Env) {x} : blockOf gl e (.nchk x) = 0 := (id rfl)
theorem bk_tas (gl : Nat → AV) (e : Env) {t z o x} : blockOf gl e (.tas t z o x) = 0 := (id rfl)
theorem bk_ext (gl : Nat → AV) (e : Env) {i x} : blockOf gl e (.ext i x) = 0 := (id rfl)
theorem bk_call (gl : Nat → AV) (e : Env) {f a} : blockOf gl e (.call f a) = 0 := (id rfl)
theorem bk_len (gl : Nat → AV) (e : Env) {x} : blockOf gl e (.len x) = 0 := (id rfl)
theorem bk_mn (gl : Nat → AV) (e : Env) {l} : blockOf gl e (.mn l) = 0 := (id rfl)
theorem bk_mx (gl : Nat → AV) (e : Env) {l} : blockOf gl e (.mx l) = 0 := (id rfl)
theorem bk_app (gl : Nat → AV) (e : Env) {h n b x y} : blockOf gl e (.app h n b x y) = 0 := (id rfl)
theorem bk_build (gl : Nat → AV) (e : Env) {z p} : blockOf gl e (.build z p) = 0 := (id rfl)
theorem bk_bsl (gl : Nat → AV) (e : Env) {h n l z p} : blockOf gl e (.bsl h n l z p) = 0 := (id rfl)
theorem bk_box (gl : Nat → AV) (e : Env) {x} : blockOf gl e (.box x) = 0 := (id rfl)
theorem bk_mks (gl : Nat → AV) (e : Env) {n b z l c} : blockOf gl e (.mks n b z l c) = 0 := (id rfl)
theorem bk_cpy (gl : Nat → AV) (e : Env) {n x y} : blockOf gl e (.cpy n x y) = 0 := (id rfl)
theorem bk_rng (gl : Nat → AV) (e : Env) {x} : blockOf gl e (.rng x) = 0 := (id rfl)
theorem bk_nxt (gl : Nat → AV) (e : Env) {x} : blockOf gl e (.nxt x) = 0 := (id rfl)
theorem bk_alloc (gl : Nat → AV) (e : Env) {z} : blockOf gl e (.alloc z) = 0 := (id rfl)
/-! Draws of which the loudness alone says that they are calm. -/
def calmTwoN (x y : Nat) : Bool := x == 0 || y == 0 || (x == 1 && y == 1)
def calmN (before : List Nat) (l : List Nat) : Bool :=
  (List.range l.length).all fun j => (List.range j).all fun i => (before.getD j 0).testBit i || calmTwoN (l.getD i 0) (l.getD j 0)
theorem calmTwo_of {x y : Rec} (h : calmTwoN x.n y.n = true) : calmTwo x y = true := by
  obtain ⟨n, b, s, s'⟩ := x
  obtain ⟨m, c, u, u'⟩ := y
  simp only [calmTwoN, Bool.or_eq_true, Bool.and_eq_true, beq_iff_eq] at h
  rcases h with (rfl | rfl) | ⟨rfl, rfl⟩
  · rfl
  · match n with
    | 0 => rfl
    | 1 => rfl
    | _ + 2 => rfl
  · rfl
theorem getD_n (l : List Rec) (i : Nat) : (l.map Rec.n).getD i 0 = (l.getD i default).n := by
  simp only [List.getD, List.getElem?_map]
  cases l[i]? <;> rfl
theorem calm_quiet {bf : List Nat} {l : List Rec} (h : calmN bf (l.map Rec.n).reverse = true) : calm bf l.reverse = true := by
  rw [← List.map_reverse] at h
  generalize l.reverse = l at h ⊢
  simp only [calmN, calm, calmPair, List.all_eq_true, Bool.or_eq_true, List.length_map, getD_n] at h ⊢
  intro j hj i hi
  rcases h j hj i hi with h | h
  · exact .inl h
  · exact .inr (calmTwo_of h)
theorem freeze_int (n : Nat) (s : St) (k : IntKind) (i : Int) : Ab.freeze n s (.int k i) = some (.int k i, s) := (id rfl)
theorem freeze_bool (n : Nat) (s : St) (b : Bool) : Ab.freeze n s (.bool b) = some (.bool b, s) := (id rfl)
theorem freeze_str (n : Nat) (s : St) (b : List UInt8) : Ab.freeze n s (.str b) = some (.str b, s) := (id rfl)
theorem freeze_u16 (n : Nat) (s : St) (c : BitVec 16) : Ab.freeze n s (u16 c) = some (u16 c, s) := (id rfl)
theorem freeze_u8 (n : Nat) (s : St) (c : UInt8) : Ab.freeze n s (u8v c) = some (u8v c, s) := (id rfl)
theorem freeze_ptr (n : Nat) (s : St) (b o : Nat) : Ab.freeze n s (.ptr b o) = some (.ptr b o, s) := (id rfl)
theorem freeze_nils (n : Nat) (s : St) : Ab.freeze n s .nils = some (.nils, s) := (id rfl)
theorem outR_ret (res : List MRes) (e : Env) (s : St) : outR res (some (.ret, e, s)) = match resVs e s res with | some (vs, s') => some (oneOr vs, s') | none => none := (id rfl)
theorem outR_nrm (res : List MRes) (e : Env) (s : St) : outR res (some (.nrm, e, s)) = match resVs e s res with | some (vs, s') => some (oneOr vs, s') | none => none := (id rfl)
theorem resV_tmp (e : Env) (s : St) (n i : Nat) : resV e s (.tmp n i) = Ab.freeze n s (e.at i) := (id rfl)
theorem loadR_rp (s : St) (n : Option Nat) (cs : List AV) : loadR s n (.rp cs) = pR s (cut cs 0 n) := (id rfl)
def storeV (n : Nat) (s : St) (x v : AV) : Option (AV × St) :=
  match x with
  | .ptr b o => match s.get b with
    | some (.cells z cs) => match cellsOf v with
      | some vs => if vs.length = n then match storeL cs o vs with
        | some cs' => some (.undef, s.upd b (.cells z cs'))
        | none => none else none
      | none => none
    | _ => none
  | _ => none
theorem ev1_storeV (gl : Nat → AV) (call : Calls') (e : Env) (s : St) (n : Nat) (x v : Opd) : ev1 gl call e s (.store n x v) = wR (storeV n s (opd gl e x) (opd gl e v)) := by
  rw [ev1_store]; rfl
theorem i64_lss (a b : Int) : binV .lss (.int .i64 a) (.int .i64 b) = some (.bool (decide (a < b))) := (id rfl)
theorem i64_leq (a b : Int) : binV .leq (.int .i64 a) (.int .i64 b) = some (.bool (decide (a ≤ b))) := (id rfl)
theorem i64_gtr (a b : Int) : binV .gtr (.int .i64 a) (.int .i64 b) = some (.bool (decide (a > b))) := (id rfl)
theorem i64_geq (a b : Int) : binV .geq (.int .i64 a) (.int .i64 b) = some (.bool (decide (a ≥ b))) := (id rfl)
theorem i64_eql (a b : Int) : binV .eql (.int .i64 a) (.int .i64 b) = some (.bool (a == b)) := (id rfl)
theorem i64_neq (a b : Int) : binV .neq (.int .i64 a) (.int .i64 b) = some (.bool (a != b)) := (id rfl)
theorem i64_add (a b : Int) : binV .add (.int .i64 a) (.int .i64 b) = some (.int .i64 (IntKind.i64.wrap (a + b))) := (id rfl)
theorem i64_sub (a b : Int) : binV .sub (.int .i64 a) (.int .i64 b) = some (.int .i64 (IntKind.i64.wrap (a - b))) := (id rfl)
def bslR (h : Bool) (m n : Nat) (s : St) : Option (List AV) → Option (AV × St × Nat)
  | some cs => if h then some (.hs m s.next 0 n, s.new (.cells m cs), 2) else some (.sl cs n (some (s.next, 0, m)), s.new (.tick m 0), 2)
  | none => none
theorem bslR_sl (m n : Nat) (s : St) (cs : List AV) : bslR false m n s (some cs) = some (.sl cs n (some (s.next, 0, m)), s.new (.tick m 0), 2) := (id rfl)
theorem bslR_hs (m n : Nat) (s : St) (cs : List AV) : bslR true m n s (some cs) = some (.hs m s.next 0 n, s.new (.cells m cs), 2) := (id rfl)
theorem ev1_bslR (gl : Nat → AV) (call : Calls') (e : Env) (s : St) (h : Bool) (m n : Nat) (z : List AV) (ps : List (Nat × Nat × Opd)) : ev1 gl call e s (.bsl h m n z ps) = bslR h m n s (fill gl e z ps) := by
  rw [ev1_bsl]; simp only [evW]; cases fill gl e z ps <;> cases h <;> rfl
theorem fill_nil (gl : Nat → AV) (e : Env) (cs : List AV) : fill gl e cs [] = some cs := (id rfl)
def fill1 (cells : List AV) (off size : Nat) (v : AV) : Option (List AV) :=
  match cellsOf v with
  | some vs => if vs.length = size then storeL cells off vs else none
  | none => none
def thenO {α β : Type} (x : Option α) (f : α → Option β) : Option β :=
  match x with
  | some a => f a
  | none => none
theorem thenO_some {α β : Type} (x : α) (f : α → Option β) : thenO (some x) f = f x := (id rfl)
theorem fill_cons (gl : Nat → AV) (e : Env) (cs : List AV) (off size : Nat) (x : Opd) (ps : List (Nat × Nat × Opd)) : fill gl e cs ((off, size, x) :: ps) = thenO (fill1 cs off size (opd gl e x)) fun cs' => fill gl e cs' ps := by
  simp only [fill, fill1, thenO]
  cases cellsOf (opd gl e x) with
  | none => rfl
  | some vs =>
    by_cases h : vs.length = size
    · simp only [h, if_true]; cases storeL cs off vs <;> rfl
    · simp only [h, if_false]
theorem fill1_u8 (cs : List AV) (off : Nat) (b : UInt8) (h : off < cs.length) : fill1 cs off 1 (u8v b) = some (cs.set off (u8v b)) := by
  simp only [fill1, u8v, cellsOf, storeL, List.length_cons, List.length_nil, fillL]
  simp; omega
theorem fill1_u8a (a : AV) (cs : List AV) (b : UInt8) : fill1 (a :: cs) 0 1 (u8v b) = some (u8v b :: cs) := fill1_u8 _ _ _ (by simp)
theorem fill1_u8b (a a' : AV) (cs : List AV) (b : UInt8) : fill1 (a :: a' :: cs) 1 1 (u8v b) = some (a :: u8v b :: cs) := fill1_u8 _ _ _ (by simp)
theorem fill1_ca (a : AV) (cs : List AV) (k : IntKind) (b : Int) : fill1 (a :: cs) 0 1 (.int k b) = some (.int k b :: cs) := by
  simp [fill1, cellsOf, storeL, fillL]
theorem fill1_cb (a a' : AV) (cs : List AV) (k : IntKind) (b : Int) : fill1 (a :: a' :: cs) 1 1 (.int k b) = some (a :: .int k b :: cs) := by
  simp [fill1, cellsOf, storeL, fillL]
theorem un_not (b : Bool) : unV .not (.bool b) = some (.bool (!b)) := (id rfl)
theorem bq_true (b : Bool) : (b == true) = b := by cases b <;> rfl
theorem bq_false (b : Bool) : (b == false) = !b := by cases b <;> rfl
/-- A loop whose rounds go on or leave; Q: what is to hold of its outcome. -/
theorem iter_leave (f : Env → St → Out) (l : List Bool) (I : Nat → Env → St → Prop) (Q : Out → Prop) (n : Nat)
    (on : ∀ i e s, i < n → I i e s → (∃ e' s', f (maskE l e) s = some (.nrm, e', s') ∧ I (i + 1) e' s') ∨ (Q (f (maskE l e) s) ∧ ∀ e' s', f (maskE l e) s ≠ some (.nrm, e', s')))
    (off : ∀ e s, I n e s → Q (f (maskE l e) s) ∧ ∀ e' s', f (maskE l e) s ≠ some (.nrm, e', s')) :
    ∀ (d i : Nat) (e : Env) (s : St) (k : Nat), i + d = n → I i e s → d < k → Q (iter f l k e s) := by
  have out : ∀ (e : Env) (s : St) (k : Nat), (Q (f (maskE l e) s) ∧ ∀ e' s', f (maskE l e) s ≠ some (.nrm, e', s')) → Q (iter f l (k + 1) e s) := by
    rintro e s k ⟨h1, h2⟩
    rw [iter_succ]
    revert h1 h2
    generalize f (maskE l e) s = r
    intro h1 h2
    cases r with
    | none => exact h1
    | some r =>
      obtain ⟨x, e', s'⟩ := r
      cases x with
      | nrm => exact absurd rfl (h2 e' s')
      | exit i => exact h1
      | ret => exact h1
  intro d
  induction d with
  | zero =>
    intro i e s k hi hI hk
    obtain ⟨k, rfl⟩ : ∃ m, k = m + 1 := ⟨k - 1, by omega⟩
    have : i = n := by omega
    subst this
    exact out e s k (off e s hI)
  | succ d ih =>
    intro i e s k hi hI hk
    obtain ⟨k, rfl⟩ : ∃ m, k = m + 1 := ⟨k - 1, by omega⟩
    rcases on i e s (by omega) hI with ⟨e', s', h1, h2⟩ | h
    · rw [iter_succ, h1, seqR_nrm]
      exact ih (i + 1) e' s' k (by omega) h2 (by omega)
    · exact out e s k h
theorem u8_beq (a b : UInt8) : ((a.toNat : Int) == (b.toNat : Int)) = (a == b) := by
  rw [Bool.eq_iff_iff, beq_iff_eq, beq_iff_eq]
  exact ⟨fun h => UInt8.toNat_inj.1 (Int.ofNat.inj h), fun h => by rw [h]⟩
theorem u8_neq (a b : UInt8) : binV .neq (u8v a) (u8v b) = some (.bool (!(a == b))) := by
  show some (AV.bool (!((a.toNat : Int) == (b.toNat : Int)))) = _
  rw [u8_beq]
theorem u8_eql (a b : UInt8) : binV .eql (u8v a) (u8v b) = some (.bool (a == b)) := by
  show some (AV.bool ((a.toNat : Int) == (b.toNat : Int))) = _
  rw [u8_beq]
theorem str_eql (a b : List UInt8) : binV .eql (.str a) (.str b) = some (.bool (a == b)) := (id rfl)
theorem str_neq (a b : List UInt8) : binV .neq (.str a) (.str b) = some (.bool (!(a == b))) := (id rfl)
theorem wrapI (n : Int) (h : -1000000000 ≤ n) (g : n ≤ 1000000000) : IntKind.i64.wrap n = n := by rw [IntKind.wrap_i64]; omega
end Go.Ab
