/- The first functions of layer 4 as what they answer. No conditions. -/
import Derived.Test.YthcblggiojpmcaaDoorSet
import Derived.Test.YthcblggiojpmcaaDoorFrame
import Derived.Test.YthcblggiojpmcaaDoorM4g
import Derived.Test.YthcblggiojpmcaaDoorNick
import Derived.Test.YthcblggiojpmcaaDoorCtl
import Derived.Test.YthcblggiojpmcaaDoorBegunT
set_option linter.unusedSimpArgs false
set_option linter.unusedVariables false
set_option maxRecDepth 100000
namespace Go.Proofs.YthcblggiojpmcaaDoor
open Go Go.Ab
/-! Controls and frames, read out of values. -/
def toCt : AV → Option Ct
  | .iface t (.agg [.int .i64 a, .int .i64 b, .bool pf]) => if t = 64 then some (.i a b pf) else if t = 84 then some (.s a b pf) else none
  | .iface t (.agg [.int .i64 a, .bool pf]) => if t = 86 then some (.u a pf) else none
  | .nili => some .n
  | _ => none
theorem toCt_av (c : Ct) : toCt c.av = some c := by cases c <;> rfl
theorem toCt_of {v : AV} {c : Ct} (h : toCt v = some c) : v = c.av := by
  unfold toCt at h
  split at h
  · split at h
    · rename_i h1; cases h; subst h1; rfl
    · split at h
      · rename_i h1; cases h; subst h1; rfl
      · cases h
  · split at h
    · rename_i h1; cases h; subst h1; rfl
    · cases h
  · cases h; rfl
  · cases h
theorem Ct.flat (c : Ct) : Ab.flat c.av = true := by cases c <;> rfl
def toFr : AV → Option Fr
  | .agg [.int .i64 seat, .int .i64 count, .bool cmd, c, .str body] => (toCt c).map fun c => ⟨seat, count, cmd, c, body⟩
  | _ => none
theorem toFr_of {v : AV} {f : Fr} (h : toFr v = some f) : v = .agg f.cells := by
  unfold toFr at h
  split at h
  · obtain ⟨c, h1, rfl⟩ := Option.map_eq_some_iff.1 h
    rw [toCt_of h1]; rfl
  · cases h
theorem Fr.flat (f : Fr) : Ab.flat (.agg f.cells) = true := by simp [Ab.flat, Ab.flatL, Fr.cells, f.ctl.flat]
/-- A plain frame. -/
structure Pn where
  seat : Int
  count : Int
  cmd : Bool
  kind : Int
  sort : Int
  nr : Int
  ns : Int
  pf : Bool
  body : List UInt8
  deriving DecidableEq
def Pn.cells (p : Pn) : List AV := [.int .i64 p.seat, .int .i64 p.count, .bool p.cmd, .int .i64 p.kind, .int .i64 p.sort, .int .i64 p.nr, .int .i64 p.ns, .bool p.pf, .str p.body]
def toPn : AV → Option Pn
  | .agg [.int .i64 seat, .int .i64 count, .bool cmd, .int .i64 kind, .int .i64 sort, .int .i64 nr, .int .i64 ns, .bool pf, .str body] => some ⟨seat, count, cmd, kind, sort, nr, ns, pf, body⟩
  | _ => none
theorem toPn_of {v : AV} {p : Pn} (h : toPn v = some p) : v = .agg p.cells := by
  unfold toPn at h
  split at h
  · cases h; rfl
  · cases h
theorem Pn.flat (p : Pn) : Ab.flat (.agg p.cells) = true := rfl
def Pn.ctl (p : Pn) : Ct := any1 p.kind p.sort p.nr p.ns p.pf
/-- Nothing stands where nothing belongs. -/
def Pn.exact (p : Pn) : Bool := if p.kind = 1 then decide (p.sort = 0) else if p.kind = 2 then decide (p.ns = 0) else decide (p.nr = 0) && decide (p.ns = 0)
def Pn.okc (p : Pn) : Bool := p.ctl.may && p.exact
/-! What the functions answer. -/
/-- A value that is no control: of another type. -/
def foreign : AV → Bool
  | .iface t _ => !(t == 64 || t == 84 || t == 86)
  | _ => false
theorem foreign_of {v : AV} (h : foreign v = true) : ∃ t w, v = .iface t w ∧ (∀ z, tasV 64 z v = some (.tup [z, .bool false])) ∧ (∀ z, tasV 84 z v = some (.tup [z, .bool false])) ∧ (∀ z, tasV 86 z v = some (.tup [z, .bool false])) := by
  cases v with
  | iface t w =>
    simp only [foreign, Bool.not_eq_true', Bool.or_eq_false_iff, beq_eq_false_iff_ne] at h
    exact ⟨t, w, rfl, fun z => by simp [tasV, h.1.1], fun z => by simp [tasV, h.1.2], fun z => by simp [tasV, h.2]⟩
  | _ => cases h
def isFo : AV → Bool
  | .agg [.int .i64 _, .int .i64 _, .bool _, v, .str _] => foreign v
  | _ => false
theorem isFo_of {v : AV} (h : isFo v = true) : ∃ seat count cmd t w body, v = .agg [.int .i64 seat, .int .i64 count, .bool cmd, .iface t w, .str body] ∧ foreign (.iface t w) = true := by
  unfold isFo at h
  split at h
  · obtain ⟨t, w, rfl, _⟩ := foreign_of h
    exact ⟨_, _, _, _, _, _, rfl, h⟩
  · cases h
def hMay : List AV → St → Option AV
  | [v], _ => match toCt v with
    | some c => some (.bool c.may)
    | none => if foreign v = true then some (.bool false) else none
  | _, _ => none
def hPf : List AV → St → Option AV
  | [v], _ => (toCt v).map fun c => .bool c.pf
  | _, _ => none
def hAny1 : List AV → St → Option AV
  | [v], _ => (toPn v).map fun p => p.ctl.av
  | _, _ => none
def hFMay : List AV → St → Option AV
  | [v], _ => match toFr v with
    | some f => some (.bool f.may)
    | none => if isFo v = true then some (.bool false) else none
  | _, _ => none
def hText : List AV → St → Option AV
  | [.str l, .int .i64 n], _ => if 0 ≤ n then some (.str (l.take n.toNat)) else none
  | _, _ => none
def hTrue : List AV → St → Option AV
  | [], _ => some (.bool true)
  | _, _ => none
def hKind : List AV → St → Option AV
  | [.int _ r], _ => some (.int .i64 (kindOf r))
  | _, _ => none
theorem one_of {α : Type} {f : α → AV} {x : Option α} {v : AV} (h : x.map f = some v) : ∃ a, x = some a ∧ f a = v := Option.map_eq_some_iff.1 h
theorem may_foreign (k t : Nat) (w : AV) (h : foreign (.iface t w) = true) (s : St) : evT (k + 1) 36 [.iface t w] s = some (.bool false, s) := by
  obtain ⟨_, _, hv, t1, t2, t3⟩ := foreign_of h
  rw [evT_in rfl tab36]
  simp only [M36, t1, t2, t3, qES0, qES1, qES2, env0, List.length_cons, List.length_nil, Nat.reduceAdd, Nat.reduceSub, List.replicate, List.cons_append, List.nil_append, opd, Env.put, Env.at, List.set_cons_zero, List.set_cons_succ, List.getD_cons_zero, List.getD_cons_succ, freezeL, resVs, oneOr, Option.map_some, Option.map_none, List.map_cons, List.map_nil, if_true, if_false, Bool.not_true, Bool.not_false, Bool.false_eq_true, reduceIte, decide_true, decide_false, Int.reduceLT, Int.reduceLE, Int.reduceGT, Int.reduceGE, Int.reduceEq, Int.reduceBEq, Int.reduceBNe, load_ptr, ldV_some, cellAt_cells, List.getElem?_cons_zero, List.getElem?_cons_succ, store_ptr, stO_some, setAt_0, setAt_1, setAt_2, setAt_3, setAt_4, setAt_5, setAt_6, setAt_7, setAt_8, setAt_9, setAt_10, setAt_11, setAt_12, cells_int, cells_bool, cells_str, cells_nils, cells_nilp, cells_ptr, cells_sl, cells_u8, cells_u16, cells_agg, get_upd_is, Option.isSome_some, upd_upd, ev1_nchkV, ev1_faV, nchkV_ptr, faV_ptr, ev1_extV, extV_tup, eqptr_nil, eqptr_ptr, Nat.zero_add, Nat.add_zero, qPL0, qPL1, qPL2, qPL3, qPL4, qPL5, beq_self_eq_true]
theorem may_pure : PureOk (evT 1000) 36 hMay := by
  intro args s v h
  unfold hMay at h
  split at h
  · rename_i x
    split at h
    · rename_i c hc
      cases h
      rw [toCt_of hc]
      obtain ⟨s', h1, _⟩ := may_evE 998 c St.nil
      exact ⟨rfl, .inl ⟨by simp [flatL, c.flat], _, s', h1, rfl⟩⟩
    · split at h
      · rename_i hf
        cases h
        obtain ⟨t, w, rfl, _⟩ := foreign_of hf
        exact ⟨rfl, .inr ⟨_, s, may_foreign 999 t w hf s, Ext.refl s, rfl⟩⟩
      · cases h
  · cases h
theorem pf_pure : PureOk (evT 1000) 38 hPf := pureOk_of (by
  intro args s v h
  unfold hPf at h
  split at h
  · obtain ⟨c, hc, rfl⟩ := one_of h
    rw [toCt_of hc]
    obtain ⟨s', h1⟩ := pf_ev 999 c St.nil
    exact ⟨rfl, by simp [flatL, c.flat], by rw [h1]; rfl⟩
  · cases h)
theorem any1_pure : PureOk (evT 1000) 33 hAny1 := pureOk_of (by
  intro args s v h
  unfold hAny1 at h
  split at h
  · obtain ⟨p, hp, rfl⟩ := one_of h
    rw [toPn_of hp]
    have h1 := any1_ev 999 p.seat p.count p.kind p.sort p.nr p.ns p.cmd p.pf p.body St.nil
    refine ⟨Ct.flat _, by simp [flatL, p.flat], ?_⟩
    simp only [Pn.cells]
    rw [h1]
    simp only [valR, Pn.ctl]
    cases any1 p.kind p.sort p.nr p.ns p.pf <;> rfl
  · cases h)
theorem fmay_foreign (seat count : Int) (cmd : Bool) (t : Nat) (w : AV) (body : List UInt8) (h : foreign (.iface t w) = true) (s : St) : ∃ s', evT 1000 47 [.agg [.int .i64 seat, .int .i64 count, .bool cmd, .iface t w, .str body]] s = some (.bool false, s') ∧ Ext s s' := by
  obtain ⟨_, _, hv, t1, t2, t3⟩ := foreign_of h
  have hm := may_foreign 998 t w h
  show ∃ s', evT 1000 47 _ (s.pl []) = _ ∧ _
  rw [show (1000 : Nat) = 999 + 1 from rfl, evT_in rfl tab47]
  simp only [M47, t2, hm, qES0, qES1, qES2, env0, List.length_cons, List.length_nil, Nat.reduceAdd, Nat.reduceSub, List.replicate, List.cons_append, List.nil_append, opd, Env.put, Env.at, List.set_cons_zero, List.set_cons_succ, List.getD_cons_zero, List.getD_cons_succ, freezeL, resVs, oneOr, Option.map_some, Option.map_none, List.map_cons, List.map_nil, if_true, if_false, Bool.not_true, Bool.not_false, Bool.false_eq_true, reduceIte, decide_true, decide_false, Int.reduceLT, Int.reduceLE, Int.reduceGT, Int.reduceGE, Int.reduceEq, Int.reduceBEq, Int.reduceBNe, load_ptr, ldV_some, cellAt_cells, List.getElem?_cons_zero, List.getElem?_cons_succ, store_ptr, stO_some, setAt_0, setAt_1, setAt_2, setAt_3, setAt_4, setAt_5, setAt_6, setAt_7, setAt_8, setAt_9, setAt_10, setAt_11, setAt_12, cells_int, cells_bool, cells_str, cells_nils, cells_nilp, cells_ptr, cells_sl, cells_u8, cells_u16, cells_agg, get_upd_is, Option.isSome_some, upd_upd, ev1_nchkV, ev1_faV, nchkV_ptr, faV_ptr, ev1_extV, extV_tup, eqptr_nil, eqptr_ptr, Nat.zero_add, Nat.add_zero, qPL0, qPL1, qPL2, qPL3, qPL4, qPL5, beq_self_eq_true]
  repeat' split
  all_goals exact ⟨_, rfl, pl_ext _ _⟩
theorem fmay_pure : PureOk (evT 1000) 47 hFMay := by
  intro args s v h
  unfold hFMay at h
  split at h
  · split at h
    · rename_i f hf
      cases h
      rw [toFr_of hf]
      obtain ⟨s', h1, _⟩ := frameMay_ev 997 f St.nil
      exact ⟨rfl, .inl ⟨by simp [flatL, f.flat], _, s', h1, rfl⟩⟩
    · split at h
      · rename_i hf
        cases h
        obtain ⟨seat, count, cmd, t, w, body, rfl, hw⟩ := isFo_of hf
        obtain ⟨s', h1, h2⟩ := fmay_foreign seat count cmd t w body hw s
        exact ⟨rfl, .inr ⟨_, s', h1, h2, rfl⟩⟩
      · cases h
  · cases h
theorem text_pure : PureOk (evT 1000) 21 hText := pureOk_of (by
  intro args s v h
  unfold hText at h
  split at h
  · rename_i l n
    split at h
    · rename_i hn
      cases h
      refine ⟨rfl, rfl, ?_⟩
      rw [show (1000 : Nat) = 999 + 1 from rfl, evT_in rfl tab21]
      by_cases hl : n < (l.length : Int)
      · have q := slcS_str l n hn (by omega)
        simp only [M21, qES0, qES1, qES2, env0, List.length_cons, List.length_nil, Nat.reduceAdd, Nat.reduceSub, List.replicate, List.cons_append, List.nil_append, opd, Env.put, Env.at, List.set_cons_zero, List.set_cons_succ, List.getD_cons_zero, List.getD_cons_succ, freezeL, resVs, oneOr, Option.map_some, Option.map_none, List.map_cons, List.map_nil, if_true, if_false, Bool.not_true, Bool.not_false, Bool.false_eq_true, reduceIte, decide_true, decide_false, Int.reduceLT, Int.reduceLE, Int.reduceGT, Int.reduceGE, Int.reduceEq, Int.reduceBEq, Int.reduceBNe, qPL0, qPL1, qPL2, qPL3, qPL4, qPL5, beq_self_eq_true, evP_mn2, mn2_i64, hl, q]
      · have q := slcS_str l l.length (by omega) (by omega)
        have e : l.take n.toNat = l := List.take_of_length_le (by omega)
        rw [Int.toNat_natCast, List.take_length] at q
        simp only [M21, qES0, qES1, qES2, env0, List.length_cons, List.length_nil, Nat.reduceAdd, Nat.reduceSub, List.replicate, List.cons_append, List.nil_append, opd, Env.put, Env.at, List.set_cons_zero, List.set_cons_succ, List.getD_cons_zero, List.getD_cons_succ, freezeL, resVs, oneOr, Option.map_some, Option.map_none, List.map_cons, List.map_nil, if_true, if_false, Bool.not_true, Bool.not_false, Bool.false_eq_true, reduceIte, decide_true, decide_false, Int.reduceLT, Int.reduceLE, Int.reduceGT, Int.reduceGE, Int.reduceEq, Int.reduceBEq, Int.reduceBNe, qPL0, qPL1, qPL2, qPL3, qPL4, qPL5, beq_self_eq_true, evP_mn2, mn2_i64, hl, q, e]
    · cases h
  · cases h)
theorem begun_pure : PureOk (evT 999) 20 hTrue := pureOk_of (by
  intro args s v h
  unfold hTrue at h
  split at h
  · cases h
    obtain ⟨s1, h1⟩ := begunT_ev
    exact ⟨rfl, rfl, by rw [h1]; rfl⟩
  · cases h)
def hKind30 : List AV → St → Option AV
  | [.int .i32 r], _ => some (.int .i64 (kindOf r))
  | _, _ => none
def hKind31 : List AV → St → Option AV
  | [.int .i64 r], _ => some (.int .i64 (kindOf r))
  | _, _ => none
theorem kind_pure : PureOk (evT 1000) 30 hKind30 := pureOk_of (by
  intro args s v h
  unfold hKind30 at h
  split at h
  · cases h; exact ⟨rfl, rfl, by rw [kind_ev 998]; rfl⟩
  · cases h)
theorem rkind_pure : PureOk (evT 1000) 31 hKind31 := pureOk_of (by
  intro args s v h
  unfold hKind31 at h
  split at h
  · cases h; exact ⟨rfl, rfl, by rw [refKind_ev 999]; rfl⟩
  · cases h)
/-! Bytes read as controls. -/
def gct (n : Nat) : Ct :=
  let pf := decide (n / 16 % 2 = 1)
  if n % 2 = 0 then .i (n / 32) (n / 2 % 8) pf
  else if n % 4 = 1 then (if n / 4 % 4 ≤ 2 then .s (n / 4 % 4) (n / 32) pf else .n)
  else match n - n / 16 % 2 * 16 with
    | 47 => .u 1 pf
    | 131 => .u 2 pf
    | 99 => .u 3 pf
    | 15 => .u 4 pf
    | 67 => .u 5 pf
    | 139 => .u 6 pf
    | 143 => .u 7 pf
    | _ => .n
def Ct.is (c : Ct) : Bool := match c with
  | .n => false
  | _ => true
theorem getAll : (List.range 256).map (fun n => valR (evT 1000 37 [.int .u8 (n : Nat)] St.nil)) = (List.range 256).map (fun n => some (.tup [(gct n).av, .bool (gct n).is])) := by kernel_rfl
def hGet : List AV → St → Option AV
  | [.int .u8 n], _ => if 0 ≤ n ∧ n < 256 then some (.tup [(gct n.toNat).av, .bool (gct n.toNat).is]) else none
  | _, _ => none
theorem get_pure : PureOk (evT 1000) 37 hGet := pureOk_of (by
  intro args s v h
  unfold hGet at h
  split at h
  · rename_i n
    split at h
    · rename_i hn
      cases h
      refine ⟨by simp [Ab.flat, Ab.flatL, Ct.flat], rfl, ?_⟩
      have := List.map_inj_left.1 getAll n.toNat (List.mem_range.2 (by omega))
      rw [Int.toNat_of_nonneg hn.1] at this
      exact this
    · cases h
  · cases h)
end Go.Proofs.YthcblggiojpmcaaDoor
