/- What is known of layer 4's texts, parameters and runes: a level of the evaluator. No conditions. -/
import Derived.Test.YthcblggiojpmcaaDoorBegunT
import Derived.Test.YthcblggiojpmcaaDoorDrs
import Derived.Test.YthcblggiojpmcaaDoorExtV
import Derived.Test.YthcblggiojpmcaaDoorNickP
set_option linter.unusedSimpArgs false
set_option linter.unusedVariables false
set_option maxRecDepth 100000
set_option maxHeartbeats 4000000
namespace Go.Proofs.YthcblggiojpmcaaDoor
open Go Go.Ab
theorem tab_flat (g : Nat) : Ab.flat (tabGl g) = true := by
  unfold tabGl
  split
  · decide +kernel
  · split
    · decide +kernel
    · rfl
theorem some_of {P : Prop} [Decidable P] {α : Type} {a : α} {x : Option α} {y : α} (h : (if P then some a else x) = some y) : (P ∧ a = y) ∨ x = some y := by
  split at h
  · rename_i hp; cases h; exact .inl ⟨hp, rfl⟩
  · exact .inr h
theorem says_of {r : Option (AV × St)} (hv : valR r = some (.bool true)) : Ab.saysTrue r = true := by
  obtain ⟨v0, s', h1, h2⟩ := valR_of hv
  have : v0 = .bool true := by
    cases v0 with
    | bool b => exact h2
    | tup l => cases h2
    | _ => cases h2
  rw [this] at h1
  exact (congrArg Ab.saysTrue h1)
theorem eqB (a : Bool) : eqAV (.flat (.one SK.b)) (.bool a) (.bool a) = some true := by cases a <;> rfl
theorem eqBB (a b : Bool) : eqAV (.flat (.one SK.b)) (.bool a) (.bool b) = some (a == b) := (id rfl)
theorem str_eq (a b : List UInt8) : binV .eql (.str a) (.str b) = some (.bool (a == b)) := (id rfl)
theorem str_neq' (a b : List UInt8) : binV .neq (.str a) (.str b) = some (.bool (a != b)) := (id rfl)
def hTrue : List AV → St → Option AV
  | [], _ => some (.bool true)
  | _, _ => none
theorem begun_pure : PureOk (evT 999) 20 hTrue := pureOk_of (by
  intro args s v h
  unfold hTrue at h
  split at h
  · cases h
    obtain ⟨s1, h1⟩ := begunT_ev
    exact ⟨rfl, rfl, by rw [h1]; rfl⟩
  · cases h)
theorem text_val (l : List UInt8) (n : Nat) : valR (evT 1000 21 [.str l, .int .i64 (n : Int)] St.nil) = some (.str (l.take n)) := by
  rw [show (1000 : Nat) = 999 + 1 from rfl, evT_in rfl tab21]
  have lst : lensV' (.str l) = some (.int .i64 (l.length : Nat)) := rfl
  have hs := slcS_str l ((min l.length n : Nat) : Int) (by omega) (by omega)
  have hm : (if (n : Int) < ((l.length : Nat) : Int) then (n : Int) else ((l.length : Nat) : Int)) = ((min l.length n : Nat) : Int) := by split <;> omega
  have ht : l.take (min l.length n) = l.take n := by
    rcases Nat.le_total l.length n with h | h
    · rw [Nat.min_eq_left h, List.take_length, List.take_of_length_le h]
    · rw [Nat.min_eq_right h]
  rw [Int.toNat_natCast, ht] at hs
  simp only [M21, lst, mn2_i64, evP_mn2, hm, hs, ev1_lensV', ev1_slsV, qES0, qES1, qES2, env0, List.length_cons, List.length_nil, Nat.reduceAdd, Nat.reduceSub, List.replicate, List.cons_append, List.nil_append, opd, Env.put, Env.at, List.set_cons_zero, List.set_cons_succ, List.getD_cons_zero, List.getD_cons_succ, freezeL, resVs, oneOr, Option.map_some, Option.map_none, List.map_cons, List.map_nil, if_true, if_false, Bool.not_true, Bool.not_false, Bool.false_eq_true, reduceIte, decide_true, decide_false, Int.reduceLT, Int.reduceLE, Int.reduceGT, Int.reduceGE, Int.reduceEq, Int.reduceBEq, Int.reduceBNe, load_ptr, ldV_some, cellAt_cells, List.getElem?_cons_zero, List.getElem?_cons_succ, store_ptr, stO_some, setAt_0, setAt_1, setAt_2, setAt_3, setAt_4, setAt_5, setAt_6, setAt_7, setAt_8, setAt_9, setAt_10, setAt_11, setAt_12, cells_int, cells_bool, cells_str, cells_nils, cells_nilp, cells_ptr, cells_sl, cells_u8, cells_u16, cells_agg, get_upd_is, Option.isSome_some, upd_upd, ev1_nchkV, ev1_faV, nchkV_ptr, faV_ptr, ev1_extV, extV_tup, eqptr_nil, eqptr_ptr, Nat.zero_add, Nat.add_zero, qPL0, qPL1, qPL2, qPL3, qPL4, qPL5, beq_self_eq_true]
def hText : List AV → St → Option AV
  | [.str l, .int .i64 n], _ => if 0 ≤ n then some (.str (l.take n.toNat)) else none
  | _, _ => none
theorem puText : PureOk (evT 1000) 21 hText := pureOk_of (by
  intro args s v hv
  unfold hText at hv
  split at hv
  · rename_i l n
    split at hv
    · rename_i hn
      cases hv
      have := text_val l n.toNat
      rw [Int.toNat_of_nonneg hn] at this
      exact ⟨rfl, rfl, this⟩
    · cases hv
  · cases hv)
def hKind32 : List AV → St → Option AV
  | [.int .i32 r], _ => some (.int .i64 (kindOf r))
  | _, _ => none
theorem puKind32 : PureOk (evT 1000) 30 hKind32 := pureOk_of (by
  intro args s v hv
  unfold hKind32 at hv
  split at hv
  · cases hv
    exact ⟨rfl, rfl, by rw [show (1000 : Nat) = 998 + 2 from rfl, kind_ev]; rfl⟩
  · cases hv)
def hKindI : List AV → St → Option AV
  | [.int .i64 r], _ => some (.int .i64 (kindOf r))
  | _, _ => none
theorem puKindI : PureOk (evT 1000) 31 hKindI := pureOk_of (by
  intro args s v hv
  unfold hKindI at hv
  split at hv
  · cases hv
    exact ⟨rfl, rfl, by rw [show (1000 : Nat) = 999 + 1 from rfl, rkind_ev]; rfl⟩
  · cases hv)
def hRune1 : List AV → St → Option AV
  | [.str (b :: t)], _ => if t.length ≤ 1000 then some (runeV (rune1 b t)) else none
  | _, _ => none
theorem puRune1 : PureOk (evT 1000) 64 hRune1 := pureOk_of (by
  intro args s v hv
  unfold hRune1 at hv
  split at hv
  · split at hv
    · rename_i hl
      cases hv
      exact ⟨rfl, rfl, by rw [show (1000 : Nat) = 994 + 6 from rfl, rune1_ev 994 _ _ hl]; rfl⟩
    · cases hv
  · cases hv)
def hNick : List AV → St → Option AV
  | [.str l], _ => if l.length ≤ 900 then some (.bool (mayN l)) else none
  | _, _ => none
theorem puNick : PureOk (evT 1000) 22 hNick := pureOk_of (by
  intro args s v hv
  unfold hNick at hv
  split at hv
  · split at hv
    · rename_i l ho
      cases hv
      obtain ⟨p, hp⟩ := nmay_ev 1000 l (by omega) St.nil
      exact ⟨rfl, rfl, by rw [hp]; rfl⟩
    · cases hv
  · cases hv)
theorem puRNick : PureV evT 23 hNick := pureV_of (by
  intro args s v hv
  unfold hNick at hv
  split at hv
  · split at hv
    · rename_i l ho
      cases hv
      exact ⟨rfl, rfl, 0 + l.length + 8, by rw [rnick_gen 0 l (by omega) St.nil]; rfl⟩
    · cases hv
  · cases hv)
theorem puTPut : PureOk (evT 1000) 51 hTPut := pureTPut fun v l h hl => put_val h hl
theorem puRTPut : PureOk (evT 1000) 52 hTPut := pureTPut fun v l h hl => rput_val h hl
theorem puTGet : PureOk (evT 1000) 53 hTGet := pureTGet fun s => get67_val s
theorem puRTGet : PureOk (evT 1000) 72 hTGet := pureTGet fun s => get40_val s
theorem puFind : PureOk (evT 1000) 55 hFind := pureFind fun v l id h hl => find_val h id hl
def lstN (f : Nat) : Option (List AV → St → Option AV) :=
  if f = 20 then some hTrue else if f = 21 then some hText else if f = 30 then some hKind32 else if f = 31 then some hKindI
  else if f = 64 then some hRune1 else if f = 22 then some hNick else if f = 23 then some hNick else if f = 65 then some hDec
  else if f = 51 then some hTPut else if f = 52 then some hTPut else if f = 53 then some hTGet else if f = 72 then some hTGet else if f = 55 then some hFind else none
noncomputable def extN := extWith ext lstN
theorem extN_ok : ∀ w0, ExtOk Tryd.prog tabGl w0 extN := extOk_addV (tableOf_ok _) mixed tab_flat (fun w0 => extOk _ w0) lstN (by
  intro f h hf
  unfold lstN at hf
  rcases some_of hf with ⟨rfl, rfl⟩ | hf
  · exact ⟨by kernel_rfl, .of 999 begun_pure⟩
  rcases some_of hf with ⟨rfl, rfl⟩ | hf
  · exact ⟨by rw [tab21]; rfl, .of 1000 puText⟩
  rcases some_of hf with ⟨rfl, rfl⟩ | hf
  · exact ⟨by rw [tab30]; rfl, .of 1000 puKind32⟩
  rcases some_of hf with ⟨rfl, rfl⟩ | hf
  · exact ⟨by rw [tab31]; rfl, .of 1000 puKindI⟩
  rcases some_of hf with ⟨rfl, rfl⟩ | hf
  · exact ⟨by rw [tab64]; rfl, .of 1000 puRune1⟩
  rcases some_of hf with ⟨rfl, rfl⟩ | hf
  · exact ⟨by rw [tab22]; rfl, .of 1000 puNick⟩
  rcases some_of hf with ⟨rfl, rfl⟩ | hf
  · exact ⟨by rw [tab23]; rfl, puRNick⟩
  rcases some_of hf with ⟨rfl, rfl⟩ | hf
  · exact ⟨by rw [tab65]; rfl, .of 1000 puDec⟩
  rcases some_of hf with ⟨rfl, rfl⟩ | hf
  · exact ⟨by rw [tab51]; rfl, .of 1000 puTPut⟩
  rcases some_of hf with ⟨rfl, rfl⟩ | hf
  · exact ⟨by rw [tab52]; rfl, .of 1000 puRTPut⟩
  rcases some_of hf with ⟨rfl, rfl⟩ | hf
  · exact ⟨by rw [tab53]; rfl, .of 1000 puTGet⟩
  rcases some_of hf with ⟨rfl, rfl⟩ | hf
  · exact ⟨by rw [tab72]; rfl, .of 1000 puRTGet⟩
  rcases some_of hf with ⟨rfl, rfl⟩ | hf
  · exact ⟨by rw [tab55]; rfl, .of 1000 puFind⟩
  cases hf)
noncomputable def evN : Nat → Calls' := evF tabGl (tableOf Tryd.prog) extN
theorem evN_ok (w0 : World) (k : Nat) : CallOk Tryd.prog tabGl w0 (evN k) := evF_sound (tableOf_ok _) (extN_ok w0) mixed k
theorem evN_in {k f : Nat} {m : MFun} (hx : extN f = none) (hF : tableOf Tryd.prog f = some m) (args : List AV) (s : St) :
    evN (k + 1) f args s = outR m.res (evC tabGl (evN k) k m.body (env0 m.ntmps args) s) := evF_in hx hF args s
theorem n_text (k : Nat) (l : List UInt8) (n : Nat) (s : St) : evN (k + 1) 21 [.str l, .int .i64 (n : Int)] s = some (.str (l.take n), s) := evF_ext (H := hText) rfl (by
  show (if (0 : Int) ≤ (n : Int) then some (AV.str (l.take ((n : Int)).toNat)) else none) = _
  rw [if_pos (by omega), Int.toNat_natCast])
theorem n_kind (k : Nat) (r : Int) (s : St) : evN (k + 1) 30 [.int .i32 r] s = some (.int .i64 (kindOf r), s) := evF_ext (H := hKind32) rfl rfl
theorem n_rkind (k : Nat) (r : Int) (s : St) : evN (k + 1) 31 [.int .i64 r] s = some (.int .i64 (kindOf r), s) := evF_ext (H := hKindI) rfl rfl
theorem n_rune1 (k : Nat) (b : UInt8) (t : List UInt8) (h : t.length ≤ 1000) (s : St) : evN (k + 1) 64 [.str (b :: t)] s = some (runeV (decV (decT b t)), s) := evF_ext (H := hRune1) rfl ((if_pos h).trans (by rw [rune1_dec]))
theorem n_dec (k : Nat) (b : UInt8) (t : List UInt8) (h : t.length ≤ 1000) (s : St) : evN (k + 1) 65 [.str (b :: t)] s = some (decA (decT b t), s) := evF_ext (H := hDec) rfl (if_pos h)
theorem n_put (k : Nat) {v : AV} {l : List Tp} (h : IsTp v l) (hl : l.length ≤ 100) (s : St) : evN (k + 1) 51 [v] s = some (.tup [.str (if putOk l then encL l else []), .bool (decide (putOk l))], s) := evF_ext (H := hTPut) rfl (by
  simp only [List.map_cons, List.map_nil, hTPut, toTp_is h]; rw [if_pos hl])
theorem n_get (k : Nat) (t : List UInt8) (s : St) : evN (k + 1) 53 [.str t] s = some (getV (getL t), s) := evF_ext (H := hTGet) rfl rfl
theorem n_rget (k : Nat) (t : List UInt8) (s : St) : evN (k + 1) 72 [.str t] s = some (getV (getL t), s) := evF_ext (H := hTGet) rfl rfl
end Go.Proofs.YthcblggiojpmcaaDoor
