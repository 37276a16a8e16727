/- The quick evaluator: its trees. No conditions. -/
import Derived.Test.YtgflghhffmjojaaGreatDoorHv
set_option linter.unusedSimpArgs false
set_option linter.unusedVariables false
set_option maxRecDepth 100000
namespace Go.Ab
open Go
/-! ### Environments -/
def L16.l (s : L16) : List AV := [s.c0, s.c1, s.c2, s.c3, s.c4, s.c5, s.c6, s.c7, s.c8, s.c9, s.c10, s.c11, s.c12, s.c13, s.c14, s.c15]
def N16.l (s : N16) : List L16 := [s.c0, s.c1, s.c2, s.c3, s.c4, s.c5, s.c6, s.c7, s.c8, s.c9, s.c10, s.c11, s.c12, s.c13, s.c14, s.c15]
theorem lt16 {k : Nat} (h : k < 16) : k = 0 ∨ k = 1 ∨ k = 2 ∨ k = 3 ∨ k = 4 ∨ k = 5 ∨ k = 6 ∨ k = 7 ∨ k = 8 ∨ k = 9 ∨ k = 10 ∨ k = 11 ∨ k = 12 ∨ k = 13 ∨ k = 14 ∨ k = 15 := by omega
theorem lbN_l {k : Nat} (h : k < 16) (s : L16) : s.l[k]? = some ((lbN k).f s) := by
  rcases lt16 h with rfl | rfl | rfl | rfl | rfl | rfl | rfl | rfl | rfl | rfl | rfl | rfl | rfl | rfl | rfl | rfl <;> rfl
theorem lwN_l {k : Nat} (h : k < 16) (v : AV) (s : L16) : ((lwN k).f v s).l = s.l.set k v := by
  cases s
  rcases lt16 h with rfl | rfl | rfl | rfl | rfl | rfl | rfl | rfl | rfl | rfl | rfl | rfl | rfl | rfl | rfl | rfl <;> rfl
theorem nbN_l {k : Nat} (h : k < 16) (s : N16) : s.l[k]? = some ((nbN k).f s) := by
  rcases lt16 h with rfl | rfl | rfl | rfl | rfl | rfl | rfl | rfl | rfl | rfl | rfl | rfl | rfl | rfl | rfl | rfl <;> rfl
theorem nwN_l {k : Nat} (h : k < 16) (g : L16 → L16) (s : N16) : ((nwN k).f g s).l = s.l.set k (g ((nbN k).f s)) := by
  cases s
  rcases lt16 h with rfl | rfl | rfl | rfl | rfl | rfl | rfl | rfl | rfl | rfl | rfl | rfl | rfl | rfl | rfl | rfl <;> rfl
theorem lb_lw {i j : Nat} (hi : i < 16) (hj : j < 16) (v : AV) (s : L16) : (lbN i).f ((lwN j).f v s) = if i = j then v else (lbN i).f s := by
  have h1 := lbN_l hi ((lwN j).f v s)
  rw [lwN_l hj, List.getElem?_set] at h1
  by_cases e : j = i
  · subst e
    rw [if_pos rfl, if_pos (by simp [L16.l]; omega)] at h1
    rw [if_pos rfl]; exact (Option.some.inj h1).symm
  · rw [if_neg e, lbN_l hi] at h1
    rw [if_neg (fun h => e h.symm)]; exact (Option.some.inj h1).symm
theorem nb_nw {i j : Nat} (hi : i < 16) (hj : j < 16) (g : L16 → L16) (s : N16) : (nbN i).f ((nwN j).f g s) = if i = j then g ((nbN i).f s) else (nbN i).f s := by
  have h1 := nbN_l hi ((nwN j).f g s)
  rw [nwN_l hj, List.getElem?_set] at h1
  by_cases e : j = i
  · subst e
    rw [if_pos rfl, if_pos (by simp [N16.l]; omega)] at h1
    rw [if_pos rfl]; exact (Option.some.inj h1).symm
  · rw [if_neg e, nbN_l hi] at h1
    rw [if_neg (fun h => e h.symm)]; exact (Option.some.inj h1).symm
theorem rdN_f (i : Nat) (E : N16) : (rdN i).f E = (lbN (i % 16)).f ((nbN (i / 16)).f E) := rfl
theorem wrN_f (i : Nat) (v : AV) (E : N16) : (wrN i).f v E = (nwN (i / 16)).f ((lwN (i % 16)).f v) E := rfl
theorem rd_wr {i j : Nat} (hi : i < 256) (hj : j < 256) (v : AV) (E : N16) : (rdN i).f ((wrN j).f v E) = if i = j then v else (rdN i).f E := by
  rw [rdN_f, wrN_f, nb_nw (by omega) (by omega)]
  by_cases h : i / 16 = j / 16
  · rw [if_pos h, lb_lw (by omega) (by omega)]
    by_cases h2 : i % 16 = j % 16
    · rw [if_pos h2, if_pos (by omega)]
    · rw [if_neg h2, if_neg (by omega), rdN_f]
  · rw [if_neg h, if_neg (by intro e; subst e; exact h rfl), rdN_f]
theorem rd_nil {i : Nat} (hi : i < 256) : (rdN i).f N16.nil = .undef := by
  rw [rdN_f]
  have h1 : (nbN (i / 16)).f N16.nil = L16.nil := by
    rcases lt16 (show i / 16 < 16 by omega) with h | h | h | h | h | h | h | h | h | h | h | h | h | h | h | h <;> rw [h] <;> rfl
  rw [h1]
  rcases lt16 (show i % 16 < 16 by omega) with h | h | h | h | h | h | h | h | h | h | h | h | h | h | h | h <;> rw [h] <;> rfl
/-! ### Memory -/
noncomputable def ptF : Nat → Nat → List D8
  | 0, _ => []
  | _ + 1, 0 => []
  | k + 1, m + 1 => d8 (m % 8) :: ptF k (m / 8)
noncomputable def chB : D8 → Tr FB → Tr FB
  | .d0 => gB0
  | .d1 => gB1
  | .d2 => gB2
  | .d3 => gB3
  | .d4 => gB4
  | .d5 => gB5
  | .d6 => gB6
  | .d7 => gB7
noncomputable def wcB : D8 → (Tr FB → Tr FB) → Tr FB → Tr FB
  | .d0 => pB0
  | .d1 => pB1
  | .d2 => pB2
  | .d3 => pB3
  | .d4 => pB4
  | .d5 => pB5
  | .d6 => pB6
  | .d7 => pB7
noncomputable def getP : List D8 → Tr FB → Option FB
  | [], t => topB t
  | d :: p, t => getP p (chB d t)
noncomputable def putP (v : FB) : List D8 → Tr FB → Tr FB
  | [], t => hput0 v t
  | d :: p, t => wcB d (putP v p) t
theorem hgS_f (d : D8) (r : HG) (t : Tr FB) : (hgS d r).f t = r.f (chB d t) := by cases r; cases d <;> rfl
theorem hpS_f (d : D8) (r : HP) (v : FB) (t : Tr FB) : (hpS d r).f v t = wcB d (r.f v) t := by cases r; cases d <;> rfl
theorem hgF_f : ∀ (k n : Nat) (t : Tr FB), (hgF k n).f t = getP (ptF k n) t := by
  intro k
  induction k with
  | zero => intro n t; rfl
  | succ k ih =>
    intro n t
    cases n with
    | zero => rfl
    | succ m =>
      show (hgS (d8 (m % 8)) (hgF k (m / 8))).f t = getP (d8 (m % 8) :: ptF k (m / 8)) t
      rw [hgS_f, ih]; rfl
theorem hpF_f : ∀ (k n : Nat) (v : FB) (t : Tr FB), (hpF k n).f v t = putP v (ptF k n) t := by
  intro k
  induction k with
  | zero => intro n v t; rfl
  | succ k ih =>
    intro n v t
    cases n with
    | zero => rfl
    | succ m =>
      show (hpS (d8 (m % 8)) (hpF k (m / 8))).f v t = putP v (d8 (m % 8) :: ptF k (m / 8)) t
      rw [hpS_f, show (hpF k (m / 8)).f v = putP v (ptF k (m / 8)) from funext fun t => ih _ _ _]; rfl
theorem top_put0 (v : FB) (t : Tr FB) : topB (hput0 v t) = some v := by cases t <;> rfl
theorem top_wc (d : D8) (f : Tr FB → Tr FB) (t : Tr FB) : topB (wcB d f t) = topB t := by cases t <;> cases d <;> rfl
theorem ch_put0 (d : D8) (v : FB) (t : Tr FB) : chB d (hput0 v t) = chB d t := by cases t <;> cases d <;> rfl
theorem ch_wc (d : D8) (f : Tr FB → Tr FB) (t : Tr FB) : chB d (wcB d f t) = f (chB d t) := by cases t <;> cases d <;> rfl
theorem ch_wc_ne (d e : D8) (h : d ≠ e) (f : Tr FB → Tr FB) (t : Tr FB) : chB d (wcB e f t) = chB d t := by
  cases t <;> cases d <;> cases e <;> first | rfl | exact absurd rfl h
theorem get_putP (v : FB) : ∀ (p q : List D8) (t : Tr FB), (p = q → getP p (putP v q t) = some v) ∧ (p ≠ q → getP p (putP v q t) = getP p t) := by
  intro p
  induction p with
  | nil =>
    intro q t
    cases q with
    | nil => exact ⟨fun _ => top_put0 v t, fun h => absurd rfl h⟩
    | cons d q => exact ⟨(fun h => by cases h), fun _ => top_wc d _ t⟩
  | cons d p ih =>
    intro q t
    cases q with
    | nil => exact ⟨(fun h => by cases h), fun _ => by show getP p (chB d (hput0 v t)) = getP p (chB d t); rw [ch_put0]⟩
    | cons e q =>
      refine ⟨fun h => ?_, fun h => ?_⟩
      · cases h
        show getP p (chB d (wcB d (putP v p) t)) = some v
        rw [ch_wc]
        exact (ih p _).1 rfl
      · show getP p (chB d (wcB e (putP v q) t)) = getP p (chB d t)
        by_cases hd : d = e
        · subst hd
          rw [ch_wc]
          exact (ih q _).2 (fun hp => h (by rw [hp]))
        · rw [ch_wc_ne d e hd]
theorem d8_inj {a b : Nat} (ha : a < 8) (hb : b < 8) (h : d8 a = d8 b) : a = b := by
  have q : ∀ n : Fin 8, ∀ m : Fin 8, n ≠ m → d8 n.val ≠ d8 m.val := by
    intro n m hn hm
    have h8 : ∀ k : Nat, k < 8 → k = 0 ∨ k = 1 ∨ k = 2 ∨ k = 3 ∨ k = 4 ∨ k = 5 ∨ k = 6 ∨ k = 7 := by omega
    obtain ⟨n, hn'⟩ := n
    obtain ⟨m, hm'⟩ := m
    rcases h8 n hn' with rfl | rfl | rfl | rfl | rfl | rfl | rfl | rfl <;> rcases h8 m hm' with rfl | rfl | rfl | rfl | rfl | rfl | rfl | rfl <;> first | exact hn rfl | cases hm
  by_cases e : a = b
  · exact e
  · exact absurd h (q ⟨a, ha⟩ ⟨b, hb⟩ (fun h => e (congrArg Fin.val h)))
theorem ptF_inj : ∀ (k n l m : Nat), n ≤ k → m ≤ l → ptF k n = ptF l m → n = m := by
  intro k
  induction k with
  | zero =>
    intro n l m hn hm h
    have : n = 0 := by omega
    subst this
    cases l with
    | zero => omega
    | succ l => cases m with
      | zero => rfl
      | succ m => simp [ptF] at h
  | succ k ih =>
    intro n l m hn hm h
    cases n with
    | zero => cases l with
      | zero => omega
      | succ l => cases m with
        | zero => rfl
        | succ m => simp [ptF] at h
    | succ n => cases l with
      | zero =>
        have : m = 0 := by omega
        subst this
        simp [ptF] at h
      | succ l => cases m with
        | zero => simp [ptF] at h
        | succ m =>
          simp only [ptF, List.cons.injEq] at h
          have h1 := d8_inj (by omega) (by omega) h.1
          have h2 := ih _ _ _ (by omega) (by omega) h.2
          omega
theorem hg_hp (b c : Nat) (v : FB) (t : Tr FB) : (hgN b).f ((hpN c).f v t) = if b = c then some v else (hgN b).f t := by
  unfold hgN hpN
  rw [hgF_f, hpF_f, hgF_f]
  by_cases e : b = c
  · subst e
    rw [if_pos rfl]
    exact (get_putP v _ _ t).1 rfl
  · rw [if_neg e]
    exact (get_putP v _ _ t).2 (fun h => e (ptF_inj _ _ _ _ (Nat.le_refl _) (Nat.le_refl _) h))
end Go.Ab
/- The quick evaluator is right: states, operations. No conditions. -/
set_option linter.unusedSimpArgs false
set_option linter.unusedVariables false
set_option maxRecDepth 100000
namespace Go.Ab
open Go
/-! ### States -/
theorem at_upd (S : FS) (b c : Nat) (o : Obj) : (S.upd b o).at c = if c = b then some ⟨o, S.ck⟩ else S.at c := by
  obtain ⟨h, nx, ck, log⟩ := S
  have : (⟨h, nx, ck, log⟩ : FS).upd b o = ⟨(hpN b).f ⟨o, ck⟩ h, nx, ck + 1, log⟩ := by cases ck <;> rfl
  rw [this]
  exact hg_hp c b ⟨o, ck⟩ h
theorem upd_nx (S : FS) (b : Nat) (o : Obj) : (S.upd b o).nx = S.nx := by obtain ⟨h, nx, ck, log⟩ := S; cases ck <;> rfl
theorem upd_ck (S : FS) (b : Nat) (o : Obj) : (S.upd b o).ck = S.ck + 1 := by obtain ⟨h, nx, ck, log⟩ := S; cases ck <;> rfl
theorem upd_log (S : FS) (b : Nat) (o : Obj) : (S.upd b o).log = S.log := by obtain ⟨h, nx, ck, log⟩ := S; cases ck <;> rfl
noncomputable def FS.mk' (S : FS) (o : Obj) : FS := ⟨(hpN S.nx).f ⟨o, S.ck⟩ S.h, S.nx + 1, S.ck + 1, S.log⟩
theorem newR_eq (S : FS) (o : Obj) (f : Nat → FS → FR) : S.newR o f = f S.nx (S.mk' o) := by
  obtain ⟨h, nx, ck, log⟩ := S
  cases nx <;> cases ck <;> rfl
theorem newO_eq (S : FS) (o : Obj) (f : Nat → FS → FO) : S.newO o f = f S.nx (S.mk' o) := by
  obtain ⟨h, nx, ck, log⟩ := S
  cases nx <;> cases ck <;> rfl
theorem at_mk (S : FS) (c : Nat) (o : Obj) : (S.mk' o).at c = if c = S.nx then some ⟨o, S.ck⟩ else S.at c := hg_hp c S.nx _ S.h
theorem ble_le {a b : Nat} (h : Nat.ble a b = true) : a ≤ b := by rw [Nat.ble_eq] at h; exact h
theorem le_ble {a b : Nat} (h : a ≤ b) : Nat.ble a b = true := by rw [Nat.ble_eq]; exact h
/-- How a state goes on: what was not turned is as it was. -/
structure Evo (S S' : FS) : Prop where
  ck : S.ck ≤ S'.ck
  nx : S.nx ≤ S'.nx
  old : ∀ b x, S'.at b = some x → x.t < S.ck → S.at b = some x
  log : ∀ a ∈ S.log.notes, a ∈ S'.log.notes
theorem Evo.refl (S : FS) : Evo S S := ⟨Nat.le_refl _, Nat.le_refl _, fun _ _ h _ => h, fun _ h => h⟩
theorem Evo.trans {A B C : FS} (h : Evo A B) (g : Evo B C) : Evo A C :=
  ⟨Nat.le_trans h.ck g.ck, Nat.le_trans h.nx g.nx, fun b x hx ht => h.old b x (g.old b x hx (Nat.lt_of_lt_of_le ht h.ck)) ht, fun a ha => g.log a (h.log a ha)⟩
theorem Evo.upd (S : FS) (b : Nat) (o : Obj) : Evo S (S.upd b o) :=
  ⟨by rw [upd_ck]; omega, by rw [upd_nx]; omega, fun c x hx ht => by
    rw [at_upd] at hx
    split at hx
    · cases hx; exact absurd ht (Nat.lt_irrefl _)
    · exact hx, fun a ha => by rw [upd_log]; exact ha⟩
theorem Evo.mk' (S : FS) (o : Obj) : Evo S (S.mk' o) :=
  ⟨Nat.le_succ _, Nat.le_succ _, fun c x hx ht => by
    rw [at_mk] at hx
    split at hx
    · cases hx; exact absurd ht (Nat.lt_irrefl _)
    · exact hx, fun a ha => ha⟩
/-- The state of the evaluator holds at least that. -/
structure RS (S : FS) (s : St) : Prop where
  nx : S.nx = s.next
  at_ : ∀ b x, S.at b = some x → s.get b = some x.o
  wf : ∀ j, s.next ≤ j → s.get j = none
  ts : ∀ b x, S.at b = some x → x.t < S.ck
theorem fget_new_eq (s : St) (o : Obj) : (s.new o).get s.next = some o := by simp [St.new, St.get, getH]
theorem fget_new_ne (s : St) (o : Obj) {b : Nat} (h : b ≠ s.next) : (s.new o).get b = s.get b := by
  have : ¬ s.next = b := fun e => h e.symm
  simp [St.new, St.get, getH, this]
theorem getH_upd (h : List (Nat × Obj)) (b c : Nat) (o : Obj) : getH (updH h b o) c = if c = b then (getH h b).map (fun _ => o) else getH h c := by
  induction h with
  | nil => by_cases e : c = b <;> simp [updH, getH, e]
  | cons p h ih =>
    obtain ⟨i, q⟩ := p
    simp only [updH]
    by_cases e : i = b
    · subst e
      by_cases e2 : c = i
      · subst e2; simp [getH]
      · have : ¬ i = c := fun h => e2 h.symm
        simp [getH, e2, this]
    · by_cases e2 : c = b
      · subst e2
        simp only [if_neg e, getH, if_true] at ih ⊢
        rw [ih]
      · simp only [if_neg e, getH, if_neg e2] at ih ⊢
        by_cases e3 : i = c
        · simp [e3]
        · simp [e3, ih]
theorem fget_upd_eq (s : St) (o : Obj) {b : Nat} {q : Obj} (h : s.get b = some q) : (s.upd b o).get b = some o := by
  unfold St.get at h
  simp [St.upd, St.get, getH_upd, h]
theorem fget_upd_ne (s : St) (o : Obj) {b c : Nat} (h : c ≠ b) : (s.upd b o).get c = s.get c := by simp [St.upd, St.get, getH_upd, h]
theorem RS.upd {S : FS} {s : St} (h : RS S s) {b : Nat} {x : FB} (hb : S.at b = some x) (o : Obj) : RS (S.upd b o) (s.upd b o) := by
  have hg := h.at_ b x hb
  refine ⟨by rw [upd_nx]; exact h.nx, fun c y hy => ?_, fun j hj => ?_, fun c y hy => ?_⟩
  · rw [at_upd] at hy
    split at hy
    · rename_i e
      subst e
      cases hy
      exact fget_upd_eq s o hg
    · rename_i e
      rw [fget_upd_ne s o e]
      exact h.at_ c y hy
  · have hj' : s.next ≤ j := hj
    have : j ≠ b := fun e => by subst e; rw [h.wf j hj'] at hg; cases hg
    rw [fget_upd_ne s o this]
    exact h.wf j hj'
  · rw [at_upd] at hy
    rw [upd_ck]
    split at hy
    · cases hy; exact Nat.lt_succ_self _
    · exact Nat.lt_succ_of_lt (h.ts c y hy)
theorem RS.new {S : FS} {s : St} (h : RS S s) (o : Obj) : RS (S.mk' o) (s.new o) := by
  refine ⟨by show S.nx + 1 = s.next + 1; rw [h.nx], fun c y hy => ?_, fun j hj => ?_, fun c y hy => ?_⟩
  · rw [at_mk] at hy
    split at hy
    · rename_i e
      cases hy
      rw [e, h.nx]
      exact fget_new_eq s o
    · rename_i e
      rw [fget_new_ne s o (by rw [← h.nx]; exact e)]
      exact h.at_ c y hy
  · have hj' : s.next + 1 ≤ j := hj
    rw [fget_new_ne s o (by omega)]
    exact h.wf j (by omega)
  · rw [at_mk] at hy
    show y.t < S.ck + 1
    split at hy
    · cases hy; exact Nat.lt_succ_self _
    · exact Nat.lt_succ_of_lt (h.ts c y hy)
/-! ### Environments -/
structure RE (n : Nat) (E : FE) (e : Env) : Prop where
  len : List.length e = n
  le : n ≤ 256
  at_ : ∀ i, i < 256 → (rdN i).f E = e.at i
theorem at_ge {e : Env} {i : Nat} (h : List.length e ≤ i) : e.at i = .undef := by simp [Env.at, h]
theorem bool_le {a b : Nat} : (Nat.ble (Nat.succ a) b = true ∧ a < b) ∨ (Nat.ble (Nat.succ a) b = false ∧ b ≤ a) := by
  by_cases h : a < b
  · exact .inl ⟨le_ble h, h⟩
  · refine .inr ⟨?_, by omega⟩
    cases hh : Nat.ble (Nat.succ a) b with
    | false => rfl
    | true => exact absurd (ble_le hh) h
theorem RE.fe {n : Nat} {E : FE} {e : Env} (h : RE n E e) (i : Nat) : FE.at E i = e.at i := by
  unfold FE.at
  rcases bool_le (a := i) (b := 256) with ⟨q, hi⟩ | ⟨q, hi⟩
  · rw [q]; exact h.at_ i hi
  · rw [q]; exact (at_ge (by rw [h.len]; exact Nat.le_trans h.le hi)).symm
theorem RE.fo {n : Nat} {E : FE} {e : Env} (h : RE n E e) (gl : Nat → AV) : Ab.fo gl E = Ab.opd gl e := by
  funext x
  cases x with
  | s i =>
    show (@Bool.rec (fun _ => XB) ⟨fun _ => .undef⟩ ⟨(rdN i).f⟩ (Nat.ble (Nat.succ i) 256)).f E = e.at i
    rcases bool_le (a := i) (b := 256) with ⟨q, hi⟩ | ⟨q, hi⟩
    · rw [q]; exact h.at_ i hi
    · rw [q]; exact (at_ge (by rw [h.len]; exact Nat.le_trans h.le hi)).symm
  | c v => rfl
  | g i => rfl
theorem RE.put {n : Nat} {E : FE} {e : Env} (h : RE n E e) {d : Nat} (hd : d < n) (v : AV) : RE n ((wrN d).f v E) (e.put (some d) v) := by
  refine ⟨by rw [show e.put (some d) v = e.set d v from rfl, List.length_set]; exact h.len, h.le, fun i hi => ?_⟩
  rw [rd_wr hi (Nat.lt_of_lt_of_le hd h.le), h.at_ i hi]
  have hl := h.len
  by_cases e1 : i = d
  · subst e1
    rw [if_pos rfl]
    simp [Env.put, Env.at, List.getElem?_set, hl, hd]
  · rw [if_neg e1]
    have : ¬ d = i := fun h => e1 h.symm
    simp [Env.put, Env.at, List.getElem?_set, this]
/-! ### Answers -/
variable {v : AV} {S S' : FS} {k : Nat}
theorem pf_ok {q : Option AV} (h : pf q S = .ok v S' k) : q = some v ∧ S' = S ∧ k = 0 := by
  cases q with
  | none => cases h
  | some x => cases h; exact ⟨rfl, rfl, rfl⟩
theorem pfl_ok {q : Option AV} (h : pfl q S = .ok v S' k) : q = some v ∧ S' = S ∧ k = 1 := by
  cases q with
  | none => cases h
  | some x => cases h; exact ⟨rfl, rfl, rfl⟩
theorem optK_ok {α : Type} {q : Option α} {f : α → FR} (h : optK q f = .ok v S' k) : ∃ x, q = some x ∧ f x = .ok v S' k := by
  cases q with
  | none => cases h
  | some x => exact ⟨x, rfl, h⟩
theorem bK_ok {b : Bool} {x y : FR} (h : bK b x y = .ok v S' k) : (b = true ∧ x = .ok v S' k) ∨ (b = false ∧ y = .ok v S' k) := by
  cases b with
  | true => exact .inl ⟨rfl, h⟩
  | false => exact .inr ⟨rfl, h⟩
theorem bK_t {b : Bool} {x : FR} (h : bK b x .bad = .ok v S' k) : b = true ∧ x = .ok v S' k := by
  rcases bK_ok h with h | ⟨_, h⟩
  · exact h
  · cases h
theorem cellsK_ok {b : Nat} {f : Nat → List AV → FR} (h : cellsK S b f = .ok v S' k) : ∃ z cs t, S.at b = some ⟨.cells z cs, t⟩ ∧ f z cs = .ok v S' k := by
  unfold cellsK at h
  cases hb : S.at b with
  | none => rw [hb] at h; cases h
  | some x =>
    rw [hb] at h
    obtain ⟨o, t⟩ := x
    cases o with
    | cells z cs => exact ⟨z, cs, t, rfl, h⟩
    | _ => cases h
theorem tickK_ok {b : Nat} {f : Nat → Nat → FR} (h : tickK S b f = .ok v S' k) : ∃ z u t, S.at b = some ⟨.tick z u, t⟩ ∧ f z u = .ok v S' k := by
  unfold tickK at h
  cases hb : S.at b with
  | none => rw [hb] at h; cases h
  | some x =>
    rw [hb] at h
    obtain ⟨o, t⟩ := x
    cases o with
    | tick z u => exact ⟨z, u, t, rfl, h⟩
    | _ => cases h
theorem idxK_ok {n : Nat} {x : AV} {f : Nat → FR} (h : idxK n x f = .ok v S' k) : ∃ j, idx n x = some j ∧ f j = .ok v S' k := by
  cases x with
  | int kk i =>
    cases i with
    | ofNat m =>
      rcases bool_le (a := m) (b := n) with ⟨q, hm⟩ | ⟨q, hm⟩
      · refine ⟨m, ?_, ?_⟩
        · show (if 0 ≤ Int.ofNat m ∧ Int.ofNat m < (n : Int) then some (Int.ofNat m).toNat else none) = some m
          rw [if_pos ⟨Int.natCast_nonneg m, Int.ofNat_lt.2 hm⟩]; rfl
        · have h2 : (@Bool.rec (fun _ => Nat → (Nat → FR) → FR) (fun _ _ => FR.bad) (fun m f => @Nat.rec (fun _ => (Nat → FR) → FR) (fun f => f 0) (fun j _ f => f (Nat.succ j)) m f) (Nat.ble (Nat.succ m) n) m f) = .ok v S' k := h
          rw [q] at h2
          cases m <;> exact h2
      · have h2 : (@Bool.rec (fun _ => Nat → (Nat → FR) → FR) (fun _ _ => FR.bad) (fun m f => @Nat.rec (fun _ => (Nat → FR) → FR) (fun f => f 0) (fun j _ f => f (Nat.succ j)) m f) (Nat.ble (Nat.succ m) n) m f) = .ok v S' k := h
        rw [q] at h2
        cases h2
    | negSucc m => cases h
  | _ => cases h
/-! ### Lists -/
theorem nthN_f : ∀ (q : Nat) (l : List AV), (nthN q).f l = l[q]? := by
  intro q
  induction q with
  | zero => intro l; cases l <;> rfl
  | succ q ih =>
    intro l
    cases l with
    | nil => rfl
    | cons a l => show (nthN q).f l = _; rw [ih]; simp
theorem nthQ_eq : ∀ (l : List AV) (q : Nat), nthQ l q = l[q]? := by
  intro l
  induction l with
  | nil => intro q; rfl
  | cons a l ih => intro q; cases q with
    | zero => rfl
    | succ q => show nthQ l q = _; rw [ih]; simp
theorem dropN_ok : ∀ (q : Nat) (l : List AV) (f : List AV → FR), (dropN q).f l f = .ok v S' k → q ≤ l.length ∧ f (l.drop q) = .ok v S' k := by
  intro q
  induction q with
  | zero => intro l f h; exact ⟨Nat.zero_le _, h⟩
  | succ q ih =>
    intro l f h
    cases l with
    | nil => cases h
    | cons a l =>
      obtain ⟨h1, h2⟩ := ih l f h
      exact ⟨Nat.succ_le_succ h1, h2⟩
theorem takeN_ok : ∀ (q : Nat) (l : List AV) (f : List AV → FR), (takeN q).f l f = .ok v S' k → q ≤ l.length ∧ f (l.take q) = .ok v S' k := by
  intro q
  induction q with
  | zero => intro l f h; exact ⟨Nat.zero_le _, by rw [List.take_zero]; exact h⟩
  | succ q ih =>
    intro l f h
    cases l with
    | nil => cases h
    | cons a l =>
      obtain ⟨h1, h2⟩ := ih l _ h
      exact ⟨Nat.succ_le_succ h1, h2⟩
theorem fillL_cons (a : AV) : ∀ (vs : List AV) (l : List AV) (o : Nat), fillL (a :: l) (o + 1) vs = a :: fillL l o vs := by
  intro vs
  induction vs with
  | nil => intro l o; rfl
  | cons u vs ih => intro l o; show fillL ((a :: l).set (o + 1) u) (o + 1 + 1) vs = a :: fillL (l.set o u) (o + 1) vs; rw [List.set_cons_succ, ih]
theorem ovl_ok : ∀ (vs l : List AV) (f : List AV → FR), ovl vs l f = .ok v S' k → vs.length ≤ l.length ∧ f (fillL l 0 vs) = .ok v S' k := by
  intro vs
  induction vs with
  | nil => intro l f h; exact ⟨Nat.zero_le _, h⟩
  | cons u vs ih =>
    intro l f h
    cases l with
    | nil => cases h
    | cons a l =>
      obtain ⟨h1, h2⟩ := ih l _ h
      refine ⟨Nat.succ_le_succ h1, ?_⟩
      show f (fillL ((a :: l).set 0 u) (0 + 1) vs) = _
      rw [List.set_cons_zero, fillL_cons]
      exact h2
theorem ovlN_ok : ∀ (q : Nat) (vs l : List AV) (f : List AV → FR), ovlN q vs l f = .ok v S' k → ∃ l', storeL l q vs = some l' ∧ f l' = .ok v S' k := by
  have key : ∀ (q : Nat) (vs l : List AV) (f : List AV → FR), ovlN q vs l f = .ok v S' k → q + vs.length ≤ l.length ∧ f (fillL l q vs) = .ok v S' k := by
    intro q
    induction q with
    | zero => intro vs l f h; obtain ⟨h1, h2⟩ := ovl_ok vs l f h; exact ⟨by omega, h2⟩
    | succ q ih =>
      intro vs l f h
      cases l with
      | nil => cases h
      | cons a l =>
        obtain ⟨h1, h2⟩ := ih vs l _ h
        refine ⟨by simp; omega, ?_⟩
        rw [fillL_cons]
        exact h2
  intro q vs l f h
  obtain ⟨h1, h2⟩ := key q vs l f h
  exact ⟨fillL l q vs, by unfold storeL; rw [if_pos h1], h2⟩
theorem lenQ_eq (l : List AV) : lenQ l = l.length := by
  induction l with
  | nil => rfl
  | cons a l ih => show Nat.succ (lenQ l) = _; rw [ih]; rfl
theorem beq_n {a b : Nat} (h : Nat.beq a b = true) : a = b := Nat.eq_of_beq_eq_true h
theorem cells1_eq (x : AV) : cells1 x = cellsOf x := by cases x <;> rfl
theorem cutQ_eq (cs : List AV) (o : Nat) (n : Option Nat) : cutQ cs o n = Ab.cut cs o n := by
  cases n with
  | none => exact nthQ_eq cs o
  | some n => rfl
theorem cut_some {cs : List AV} {o n : Nat} (h1 : o ≤ cs.length) (h2 : n ≤ (cs.drop o).length) : Ab.cut cs o (some n) = some (.agg ((cs.drop o).take n)) := by
  simp only [Ab.cut]
  rw [if_pos (by rw [List.length_drop] at h2; omega)]
/-! ### Integers -/
theorem wrap_id (kk : IntKind) (m : Nat) (h : m ≤ maxQ kk) : kk.wrap (m : Int) = m := by
  cases kk <;> simp only [maxQ] at h <;> simp only [IntKind.wrap, IntKind.bits, IntKind.signed] <;> simp <;> omega
theorem wrapQ_eq (kk : IntKind) (n : Int) : wrapQ kk n = kk.wrap n := by
  cases n with
  | ofNat m =>
    show @Bool.rec (fun _ => Int) (kk.wrap (.ofNat m)) (Int.ofNat m) (Nat.ble m (maxQ kk)) = _
    cases hb : Nat.ble m (maxQ kk) with
    | false => rfl
    | true => exact (wrap_id kk m (ble_le hb)).symm
  | negSucc m => rfl
theorem kEq_eq {a b : IntKind} (h : kEq a b = true) : a = b := by cases a <;> cases b <;> first | rfl | cases h
theorem addQ_eq (a b : Int) : addQ a b = a + b := by cases a <;> cases b <;> rfl
theorem subQ_eq (a b : Int) : subQ a b = a - b := by
  cases a with
  | negSucc m => cases b <;> rfl
  | ofNat m =>
    cases b with
    | negSucc n => rfl
    | ofNat n =>
      show @Bool.rec (fun _ => Int) (Int.ofNat m - Int.ofNat n) (Int.ofNat (Nat.sub m n)) (Nat.ble n m) = _
      cases hb : Nat.ble n m with
      | false => rfl
      | true =>
        have := ble_le hb
        show ((m - n : Nat) : Int) = (m : Int) - (n : Int)
        omega
theorem eqQ_eq (a b : Int) : eqQ a b = (a == b) := by
  cases a with
  | ofNat m => cases b with
    | ofNat n =>
      show Nat.beq m n = ((m : Int) == (n : Int))
      cases hb : Nat.beq m n with
      | true => rw [beq_n hb]; simp
      | false =>
        have : m ≠ n := Nat.ne_of_beq_eq_false hb
        symm
        simp
        omega
    | negSucc n => rfl
  | negSucc m => cases b with
    | ofNat n => rfl
    | negSucc n =>
      show Nat.beq m n = (Int.negSucc m == Int.negSucc n)
      cases hb : Nat.beq m n with
      | true => rw [beq_n hb]; simp
      | false =>
        have : m ≠ n := Nat.ne_of_beq_eq_false hb
        symm
        simp
        omega
theorem ble_dec (a b : Nat) : Nat.ble a b = decide (a ≤ b) := by
  cases hb : Nat.ble a b with
  | true => exact (decide_eq_true (ble_le hb)).symm
  | false => exact (decide_eq_false (fun h => by rw [le_ble h] at hb; cases hb)).symm
theorem ltQ_eq (a b : Int) : ltQ a b = decide (a < b) := by
  cases a with
  | ofNat m => cases b with
    | ofNat n =>
      show Nat.ble (m + 1) n = _
      rw [ble_dec]; congr 1; simp; omega
    | negSucc n => symm; exact decide_eq_false (by simp; omega)
  | negSucc m => cases b with
    | ofNat n => symm; exact decide_eq_true (by simp; omega)
    | negSucc n =>
      show Nat.ble (n + 1) m = _
      rw [ble_dec]; congr 1; simp; omega
theorem leQ_eq (a b : Int) : leQ a b = decide (a ≤ b) := by
  cases a with
  | ofNat m => cases b with
    | ofNat n =>
      show Nat.ble m n = _
      rw [ble_dec]; congr 1; simp
    | negSucc n => symm; exact decide_eq_false (by simp; omega)
  | negSucc m => cases b with
    | ofNat n => symm; exact decide_eq_true (by simp; omega)
    | negSucc n =>
      show Nat.ble n m = _
      rw [ble_dec]; congr 1; simp; omega
end Go.Ab
/- The quick evaluator is right: operations. No conditions. -/
set_option linter.unusedSimpArgs false
set_option linter.unusedVariables false
set_option maxRecDepth 100000
namespace Go.Ab
open Go
section
variable {v : AV} {S S' : FS} {k : Nat}
theorem pow_max (kk : IntKind) : ∃ p, maxQ kk + 1 = 2 ^ p ∧ p ≤ kk.bits := by
  cases kk
  · exact ⟨7, rfl, by decide⟩
  · exact ⟨15, rfl, by decide⟩
  · exact ⟨31, rfl, by decide⟩
  · exact ⟨63, rfl, by decide⟩
  · exact ⟨8, rfl, by decide⟩
  · exact ⟨16, rfl, by decide⟩
  · exact ⟨32, rfl, by decide⟩
  · exact ⟨64, rfl, by decide⟩
theorem ofInt_nat (w m : Nat) (h : m < 2 ^ w) : (BitVec.ofInt w (m : Int)).toNat = m := by
  rw [BitVec.ofInt_natCast, BitVec.toNat_ofNat, Nat.mod_eq_of_lt h]
theorem bit_and (kk : IntKind) (m n : Nat) (hm : m ≤ maxQ kk) (hn : n ≤ maxQ kk) : binI .and kk (m : Int) (n : Int) = some (.int kk ((m &&& n : Nat) : Int)) := by
  obtain ⟨p, hp, hb⟩ := pow_max kk
  have h1 : m < 2 ^ kk.bits := Nat.lt_of_lt_of_le (by omega) (Nat.pow_le_pow_right (by decide) hb)
  have h2 : n < 2 ^ kk.bits := Nat.lt_of_lt_of_le (by omega) (Nat.pow_le_pow_right (by decide) hb)
  show some (AV.int kk (kk.wrap _)) = _
  rw [BitVec.toNat_and, ofInt_nat _ _ h1, ofInt_nat _ _ h2, wrap_id _ _ (by have := Nat.and_lt_two_pow m (show n < 2 ^ p by omega); omega)]
theorem bit_or (kk : IntKind) (m n : Nat) (hm : m ≤ maxQ kk) (hn : n ≤ maxQ kk) : binI .or kk (m : Int) (n : Int) = some (.int kk ((m ||| n : Nat) : Int)) := by
  obtain ⟨p, hp, hb⟩ := pow_max kk
  have h1 : m < 2 ^ kk.bits := Nat.lt_of_lt_of_le (by omega) (Nat.pow_le_pow_right (by decide) hb)
  have h2 : n < 2 ^ kk.bits := Nat.lt_of_lt_of_le (by omega) (Nat.pow_le_pow_right (by decide) hb)
  show some (AV.int kk (kk.wrap _)) = _
  rw [BitVec.toNat_or, ofInt_nat _ _ h1, ofInt_nat _ _ h2, wrap_id _ _ (by have := Nat.or_lt_two_pow (show m < 2 ^ p by omega) (show n < 2 ^ p by omega); omega)]
theorem bit_xor (kk : IntKind) (m n : Nat) (hm : m ≤ maxQ kk) (hn : n ≤ maxQ kk) : binI .xor kk (m : Int) (n : Int) = some (.int kk ((m ^^^ n : Nat) : Int)) := by
  obtain ⟨p, hp, hb⟩ := pow_max kk
  have h1 : m < 2 ^ kk.bits := Nat.lt_of_lt_of_le (by omega) (Nat.pow_le_pow_right (by decide) hb)
  have h2 : n < 2 ^ kk.bits := Nat.lt_of_lt_of_le (by omega) (Nat.pow_le_pow_right (by decide) hb)
  show some (AV.int kk (kk.wrap _)) = _
  rw [BitVec.toNat_xor, ofInt_nat _ _ h1, ofInt_nat _ _ h2, wrap_id _ _ (by have := Nat.xor_lt_two_pow (show m < 2 ^ p by omega) (show n < 2 ^ p by omega); omega)]
theorem bitQ_eq {f : Nat → Nat → Nat} {op : BinOp} {kk : IntKind} (hf : ∀ m n, m ≤ maxQ kk → n ≤ maxQ kk → binI op kk (m : Int) (n : Int) = some (.int kk ((f m n : Nat) : Int))) (a b : Int) : bitQ f op kk a b = binI op kk a b := by
  cases a with
  | negSucc m => rfl
  | ofNat m =>
    cases b with
    | negSucc n => rfl
    | ofNat n =>
      show @Bool.rec (fun _ => Option AV) (binI op kk (.ofNat m) (.ofNat n)) (@Bool.rec (fun _ => Option AV) (binI op kk (.ofNat m) (.ofNat n)) (some (.int kk (Int.ofNat (f m n)))) (Nat.ble n (maxQ kk))) (Nat.ble m (maxQ kk)) = _
      cases h1 : Nat.ble m (maxQ kk) with
      | false => rfl
      | true => cases h2 : Nat.ble n (maxQ kk) with
        | false => rfl
        | true => exact (hf m n (ble_le h1) (ble_le h2)).symm
theorem remQ_eq (kk : IntKind) (a b : Int) : remQ kk a b = binI .rem kk a b := by
  cases a with
  | negSucc m => rfl
  | ofNat m =>
    cases b with
    | negSucc n => rfl
    | ofNat n =>
      cases n with
      | zero => rfl
      | succ n => rfl
theorem kBits_eq (kk : IntKind) : kBits kk = kk.bits := by cases kk <;> rfl
theorem shrQ_eq (kk : IntKind) (a b : Int) : shrQ kk a b = shI .shr kk a b := by
  cases a with
  | negSucc m => rfl
  | ofNat m =>
    cases b with
    | negSucc n => rfl
    | ofNat n =>
      show @Bool.rec (fun _ => Option AV) (shI .shr kk (.ofNat m) (.ofNat n)) (some (.int kk (Int.ofNat (Nat.div m (Nat.pow 2 n))))) (Nat.ble n (kBits kk)) = _
      cases h1 : Nat.ble n (kBits kk) with
      | false => rfl
      | true =>
        have h2 := ble_le h1
        rw [kBits_eq] at h2
        show _ = (if ((n : Nat) : Int) < 0 then none else some (AV.int kk (Int.fdiv (Int.ofNat m) (2 ^ (min n kk.bits)))))
        rw [if_neg (by omega), Nat.min_eq_left h2]
        rw [show ((2 : Int) ^ n) = ((2 ^ n : Nat) : Int) by simp]
        exact congrArg (fun z => some (AV.int kk z)) (Int.ofNat_fdiv m (2 ^ n))
theorem binQ_eq (op : BinOp) (kk : IntKind) (a b : Int) (h1 : op ≠ .shl) (h2 : op ≠ .shr) : binQ op kk a b = binI op kk a b := by
  cases op with
  | add => show some (AV.int kk (wrapQ kk (addQ a b))) = _; rw [wrapQ_eq, addQ_eq]; rfl
  | sub => show some (AV.int kk (wrapQ kk (subQ a b))) = _; rw [wrapQ_eq, subQ_eq]; rfl
  | rem => exact remQ_eq kk a b
  | and => exact bitQ_eq (bit_and kk) a b
  | or => exact bitQ_eq (bit_or kk) a b
  | xor => exact bitQ_eq (bit_xor kk) a b
  | shl => exact absurd rfl h1
  | shr => exact absurd rfl h2
  | eql => show some (AV.bool (eqQ a b)) = _; rw [eqQ_eq]; rfl
  | neq => show some (AV.bool (!eqQ a b)) = _; rw [eqQ_eq]; rfl
  | lss => show some (AV.bool (ltQ a b)) = _; rw [ltQ_eq]; rfl
  | leq => show some (AV.bool (leQ a b)) = _; rw [leQ_eq]; rfl
  | gtr => show some (AV.bool (ltQ b a)) = _; rw [ltQ_eq]; rfl
  | geq => show some (AV.bool (leQ b a)) = _; rw [leQ_eq]; rfl
  | _ => rfl
theorem binL_ok {op : BinOp} {kk l : IntKind} {a b : Int} (h : binL op kk l a b S = .ok v S' k) : kk = l ∧ binQ op kk a b = some v ∧ S' = S ∧ k = 0 := by
  unfold binL at h
  cases hk : kEq kk l with
  | false => rw [hk] at h; cases h
  | true =>
    rw [hk] at h
    exact ⟨kEq_eq hk, pf_ok h⟩
theorem ar_ok {f : Int → Int → Int} {kk l : IntKind} {a b : Int} (h : b_ar f kk l a b S = .ok v S' k) : kk = l ∧ v = .int kk (wrapQ kk (f a b)) ∧ S' = S ∧ k = 0 := by
  unfold b_ar at h
  cases hk : kEq kk l with
  | false => rw [hk] at h; cases h
  | true => rw [hk] at h; cases h; exact ⟨kEq_eq hk, rfl, rfl, rfl⟩
theorem cm_ok {f : Int → Int → Bool} {kk l : IntKind} {a b : Int} (h : b_cm f kk l a b S = .ok v S' k) : kk = l ∧ v = .bool (f a b) ∧ S' = S ∧ k = 0 := by
  unfold b_cm at h
  cases hk : kEq kk l with
  | false => rw [hk] at h; cases h
  | true => rw [hk] at h; cases h; exact ⟨kEq_eq hk, rfl, rfl, rfl⟩
theorem binV_same {op : BinOp} {kk : IntKind} {a b : Int} (h1 : op ≠ .shl) (h2 : op ≠ .shr) : binV op (.int kk a) (.int kk b) = binI op kk a b := by
  cases op <;> first | exact absurd rfl h1 | exact absurd rfl h2 | exact if_pos rfl
theorem bin_int {op : BinOp} {kk l : IntKind} {a b : Int} (h : (bB op).f kk l a b S = .ok v S' k) : binV op (.int kk a) (.int l b) = some v ∧ S' = S ∧ k = 0 := by
  have L : ∀ {op : BinOp}, op ≠ .shl → op ≠ .shr → binL op kk l a b S = .ok v S' k → binV op (.int kk a) (.int l b) = some v ∧ S' = S ∧ k = 0 := by
    intro op h1 h2 h
    obtain ⟨rfl, q, r⟩ := binL_ok h
    exact ⟨by rw [binV_same h1 h2, ← binQ_eq _ _ _ _ h1 h2]; exact q, r⟩
  cases op with
  | add => obtain ⟨rfl, rfl, r⟩ := ar_ok (f := addQ) h; exact ⟨by rw [binV_same (by decide) (by decide), wrapQ_eq, addQ_eq]; rfl, r⟩
  | sub => obtain ⟨rfl, rfl, r⟩ := ar_ok (f := subQ) h; exact ⟨by rw [binV_same (by decide) (by decide), wrapQ_eq, subQ_eq]; rfl, r⟩
  | mul => exact L (by decide) (by decide) h
  | quo => exact L (by decide) (by decide) h
  | rem => exact L (by decide) (by decide) h
  | and => exact L (by decide) (by decide) h
  | or => exact L (by decide) (by decide) h
  | xor => exact L (by decide) (by decide) h
  | andNot => exact L (by decide) (by decide) h
  | shl => exact pf_ok (q := shI .shl kk a b) h
  | shr => obtain ⟨q, r⟩ := pf_ok (q := shrQ kk a b) h; exact ⟨by rw [shrQ_eq] at q; exact q, r⟩
  | eql => obtain ⟨rfl, rfl, r⟩ := cm_ok (f := eqQ) h; exact ⟨by rw [binV_same (by decide) (by decide), eqQ_eq]; rfl, r⟩
  | neq =>
    obtain ⟨rfl, rfl, r⟩ := cm_ok (f := neQ) h
    exact ⟨by rw [binV_same (by decide) (by decide), show neQ a b = !eqQ a b by unfold neQ; cases eqQ a b <;> rfl, eqQ_eq]; rfl, r⟩
  | lss => obtain ⟨rfl, rfl, r⟩ := cm_ok (f := ltQ) h; exact ⟨by rw [binV_same (by decide) (by decide), ltQ_eq]; rfl, r⟩
  | leq => obtain ⟨rfl, rfl, r⟩ := cm_ok (f := leQ) h; exact ⟨by rw [binV_same (by decide) (by decide), leQ_eq]; rfl, r⟩
  | gtr => obtain ⟨rfl, rfl, r⟩ := cm_ok (f := gtQ) h; exact ⟨by rw [binV_same (by decide) (by decide), show gtQ a b = ltQ b a from rfl, ltQ_eq]; rfl, r⟩
  | geq => obtain ⟨rfl, rfl, r⟩ := cm_ok (f := geQ) h; exact ⟨by rw [binV_same (by decide) (by decide), show geQ a b = leQ b a from rfl, leQ_eq]; rfl, r⟩
theorem bin_ok {op : BinOp} {x y : AV} (h : v_bin op (bB op).f x y S = .ok v S' k) : binV op x y = some v ∧ S' = S ∧ k = 0 := by
  cases x with
  | int kk a => cases y with
    | int l b => exact bin_int h
    | _ => cases h
  | str s => exact pf_ok (q := binV op (.str s) y) h
  | _ => cases h
theorem notQ_eq (neg b : Bool) : notQ neg b = (if neg then !b else b) := by cases neg <;> cases b <;> rfl
theorem isP_ok {neg : Bool} {x y : AV} (h : isP neg x y S = .ok v S' k) : (match eqAV .ptr x y with | some b => some (AV.bool (if neg then !b else b)) | none => none) = some v ∧ S' = S ∧ k = 0 := by
  cases x <;> cases y <;> first | (cases h; done) | (cases h; exact ⟨by rw [notQ_eq]; rfl, rfl, rfl⟩)
theorem isS_ok {neg : Bool} {x y : AV} (h : isS neg x y S = .ok v S' k) : (match eqAV .slc x y with | some b => some (AV.bool (if neg then !b else b)) | none => none) = some v ∧ S' = S ∧ k = 0 := by
  cases x <;> cases y <;> first | (cases h; done) | (cases h; exact ⟨by rw [notQ_eq]; rfl, rfl, rfl⟩)
theorem eqvB_ok {neg : Bool} {q : EqK} {x y : AV} (h : eqvB neg q x y S = .ok v S' k) : (match eqAV q x y with | some b => some (AV.bool (if neg then !b else b)) | none => none) = some v ∧ S' = S ∧ k = 0 := by
  obtain ⟨b, hb, h⟩ := optK_ok h
  cases h
  rw [hb]
  exact ⟨rfl, rfl, rfl⟩
end
/-! ### One operation -/
def GoodL (G : Nt → Prop) (S : FS) : Prop := ∀ a ∈ S.log.notes, G a
def Sim (G : Nt → Prop) (S : FS) (s : St) (r : FR) (q : Option (AV × St × Nat)) : Prop :=
  ∀ v S' k, r = .ok v S' k → Evo S S' ∧ (GoodL G S' → RS S s → ∃ s', q = some (v, s', k) ∧ RS S' s')
def CallSim (G : Nt → Prop) (call : FCall) (call' : Calls') : Prop :=
  ∀ f args S v S' k, call f args S = .ok v S' k → Evo S S' ∧ ∀ s, GoodL G S' → RS S s → ∃ s', call' f args s = some (v, s') ∧ RS S' s'
section
variable {G : Nt → Prop} {gl : Nat → AV} {call : FCall} {call' : Calls'} {E : FE} {e : Env} {n : Nat} {S : FS} {s : St}
theorem P_sim {r : FR} {m : MOp} (h : ∀ v S' k, r = .ok v S' k → evP gl e m = some v ∧ S' = S ∧ k = 0) : Sim G S s r (ev1 gl call' e s m) := by
  intro v S' k hr
  obtain ⟨h1, rfl, rfl⟩ := h v S' k hr
  exact ⟨Evo.refl _, fun _ hS => ⟨s, by simp only [ev1, h1], hS⟩⟩
theorem W_of {m : MOp} (h1 : evP gl e m = none) (h2 : evR gl e s m = none) (hc : ∀ f a, m ≠ .call f a) (hv : ∀ x a, m ≠ .callv x a) {v : AV} {s' : St} (h3 : evW gl e s m = some (v, s')) (hl : loudOf m = 2) :
    ev1 gl call' e s m = some (v, s', 2) := by
  unfold ev1
  rw [h1, h2]
  cases m <;> first | exact absurd rfl (hc _ _) | exact absurd rfl (hv _ _) | (simp only [h3, hl])
/-- Cells of a slice of one's own make, as a list. -/
theorem frz_ok {z : Nat} {cs : List AV} {size b q m : Nat} {S1 : FS} {f : AV → FS → FR} {v : AV} {S' : FS} {k : Nat} (h : frzK z cs size b q m S1 f = .ok v S' k) : z = size ∧ q + m * size ≤ cs.length ∧ f (.sl ((cs.drop q).take (m * size)) m none) S1 = .ok v S' k := by
  obtain ⟨h1, h2⟩ := bK_t h
  rw [Bool.and_eq_true] at h1
  exact ⟨beq_n h1.1, ble_le h1.2, h2⟩
theorem fz_ok {size : Nat} {x : AV} {f : AV → FS → FR} {v : AV} {S' : FS} {k : Nat} (h : fzK size S x f = .ok v S' k) :
    ∃ u S1, f u S1 = .ok v S' k ∧ Evo S S1 ∧ ∀ s, RS S s → ∃ s1, Ab.freeze size s x = some (u, s1) ∧ RS S1 s1 := by
  cases x with
  | hs z b q m =>
    have h : fzH b q m size S f = .ok v S' k := h
    unfold fzH at h
    cases hb : S.at b with
    | none => rw [hb] at h; cases h
    | some x =>
      rw [hb] at h
      obtain ⟨o, t⟩ := x
      cases o with
      | cells z' cs =>
        obtain ⟨rfl, h2, h3⟩ := frz_ok h
        refine ⟨_, _, h3, Evo.upd _ _ _, fun s hS => ⟨_, ?_, hS.upd hb _⟩⟩
        simp only [Ab.freeze, hS.at_ b _ hb]
        rw [if_pos ⟨trivial, h2⟩]
      | froz z' cs =>
        obtain ⟨rfl, h2, h3⟩ := frz_ok h
        refine ⟨_, _, h3, Evo.refl _, fun s hS => ⟨_, ?_, hS⟩⟩
        simp only [Ab.freeze, hS.at_ b _ hb]
        rw [if_pos ⟨trivial, h2⟩]
      | _ => cases h
  | _ => exact ⟨_, S, h, Evo.refl _, fun s hS => ⟨s, rfl, hS⟩⟩
theorem ab_ok : ∀ (l : List (Nat × Opd)) {S : FS} {f : List AV → FS → FR} {v : AV} {S' : FS} {k : Nat}, RE n E e → (aB gl l).f E S f = .ok v S' k →
    ∃ us S1, f us S1 = .ok v S' k ∧ Evo S S1 ∧ ∀ s, RS S s → ∃ s1, freezeL gl e s l = some (us, s1) ∧ RS S1 s1 := by
  intro l
  induction l with
  | nil => intro S f v S' k hE h; exact ⟨[], S, h, Evo.refl _, fun s hS => ⟨s, rfl, hS⟩⟩
  | cons p l ih =>
    intro S f v S' k hE h
    have h : fzK p.1 S (fo gl E p.2) (fz1 (aB gl l).f E f) = .ok v S' k := h
    rw [hE.fo gl] at h
    obtain ⟨u, S1, h1, h2, h3⟩ := fz_ok h
    obtain ⟨us, S2, g1, g2, g3⟩ := ih hE h1
    refine ⟨u :: us, S2, g1, h2.trans g2, fun s hS => ?_⟩
    obtain ⟨s1, q1, q2⟩ := h3 s hS
    obtain ⟨s2, r1, r2⟩ := g3 s1 q2
    obtain ⟨pn, px⟩ := p
    exact ⟨s2, by simp only [freezeL, q1, r1], r2⟩
theorem fzl_ok : ∀ (l : List (Nat × Opd)) {S : FS} {f : List AV → FS → FR} {v : AV} {S' : FS} {k : Nat}, fzL l (opd gl e) S f = .ok v S' k →
    ∃ us S1, f us S1 = .ok v S' k ∧ Evo S S1 ∧ ∀ s, RS S s → ∃ s1, freezeL gl e s l = some (us, s1) ∧ RS S1 s1 := by
  intro l
  induction l with
  | nil => intro S f v S' k h; exact ⟨[], S, h, Evo.refl _, fun s hS => ⟨s, rfl, hS⟩⟩
  | cons p l ih =>
    intro S f v S' k h
    obtain ⟨pn, px⟩ := p
    have h : fzK pn S (opd gl e px) (fzo (fzL l) (opd gl e) f) = .ok v S' k := h
    obtain ⟨u, S1, h1, h2, h3⟩ := fz_ok h
    obtain ⟨us, S2, g1, g2, g3⟩ := ih h1
    refine ⟨u :: us, S2, g1, h2.trans g2, fun s hS => ?_⟩
    obtain ⟨s1, q1, q2⟩ := h3 s hS
    obtain ⟨s2, r1, r2⟩ := g3 s1 q2
    exact ⟨s2, by simp only [freezeL, q1, r1], r2⟩
theorem fillK_ok : ∀ (ps : List (Nat × Nat × Opd)) {cs : List AV} {f : List AV → FR} {v : AV} {S' : FS} {k : Nat}, fillK ps (opd gl e) cs f = .ok v S' k → ∃ cs', Ab.fill gl e cs ps = some cs' ∧ f cs' = .ok v S' k := by
  intro ps
  induction ps with
  | nil => intro cs f v S' k h; exact ⟨cs, rfl, h⟩
  | cons p ps ih =>
    intro cs f v S' k h
    obtain ⟨off, size, x⟩ := p
    have h : (optK (cells1 (opd gl e x)) fun vs => bK (Nat.beq (lenQ vs) size) (ovlN off vs cs fun cs' => fillK ps (opd gl e) cs' f) .bad) = .ok v S' k := h
    obtain ⟨vs, h1, h2⟩ := optK_ok h
    obtain ⟨h3, h4⟩ := bK_t h2
    obtain ⟨cs1, h5, h6⟩ := ovlN_ok _ _ _ _ h4
    obtain ⟨cs2, h7, h8⟩ := ih h6
    rw [cells1_eq] at h1
    refine ⟨cs2, ?_, h8⟩
    simp only [Ab.fill, h1]
    rw [if_pos (by rw [← lenQ_eq]; exact beq_n h3), h5]
    exact h7
theorem news_ok {size : Nat} {x : AV} {f : List AV → Nat → FR} {v : AV} {S' : FS} {k : Nat} (h : newsK size S x f = .ok v S' k) : ∃ news m, f news m = .ok v S' k ∧ ∀ s, RS S s → newsOf size s x = some (news, m) := by
  cases x with
  | nils => exact ⟨[], 0, h, fun s _ => rfl⟩
  | sl cs m tk =>
    obtain ⟨h1, h2⟩ := bK_t h
    exact ⟨cs, m, h2, fun s _ => by simp only [newsOf]; rw [if_pos (beq_n h1)]⟩
  | str b =>
    obtain ⟨h1, h2⟩ := bK_t h
    exact ⟨_, _, h2, fun s _ => by simp only [newsOf]; rw [if_pos (beq_n h1)]⟩
  | hs z b q m =>
    obtain ⟨z', cs, t, h1, h2⟩ := cellsK_ok h
    obtain ⟨h3, h4⟩ := bK_t h2
    rw [Bool.and_eq_true] at h3
    exact ⟨_, _, h4, fun s hS => by simp only [newsOf, hS.at_ b _ h1]; rw [if_pos ⟨beq_n h3.1, ble_le h3.2⟩]⟩
  | _ => cases h
theorem new_ok {o : Obj} {f : Nat → FS → FR} {v : AV} {S' : FS} {k : Nat} (h : S.newR o f = .ok v S' k) : f S.nx (S.mk' o) = .ok v S' k := by rw [newR_eq] at h; exact h
theorem appS_ok {size bytes : Nat} {x : AV} {news : List AV} {m : Nat} {v : AV} {S' : FS} {k : Nat} (h : appSK size bytes S x news m = .ok v S' k) : k = 2 ∧ Evo S S' ∧ ∀ s, RS S s → ∃ s', appS size bytes s x news m = some (v, s') ∧ RS S' s' := by
  unfold appSK at h
  split at h
  · rcases bK_ok h with ⟨h1, h2⟩ | ⟨h1, h2⟩
    · cases h2
      have := beq_n h1
      subst this
      exact ⟨rfl, Evo.refl _, fun s hS => ⟨s, by simp [appS], hS⟩⟩
    · obtain ⟨h3, h4⟩ := bK_t h2
      have h5 := new_ok h4
      cases h5
      have hm : m ≠ 0 := Nat.ne_of_beq_eq_false h1
      exact ⟨rfl, Evo.mk' _ _, fun s hS => ⟨_, by simp only [appS]; rw [if_neg hm, if_pos h3, hS.nx], hS.new _⟩⟩
  · rename_i cs n' t u z'
    obtain ⟨z, u', t', h1, h2⟩ := tickK_ok h
    obtain ⟨h3, h4⟩ := bK_t h2
    cases h4
    simp only [Bool.and_eq_true] at h3
    obtain ⟨a1, a2, a3, a4⟩ := h3
    refine ⟨rfl, Evo.upd _ _ _, fun s hS => ⟨_, ?_, hS.upd h1 _⟩⟩
    simp only [appS, hS.at_ t _ h1]
    rw [if_pos ⟨beq_n a1, beq_n a2, beq_n a3, a4⟩]
  · cases h
theorem appH_ok {size bytes : Nat} {x : AV} {news : List AV} {m : Nat} {v : AV} {S' : FS} {k : Nat} (h : appHK size bytes S x news m = .ok v S' k) : k = 2 ∧ Evo S S' ∧ ∀ s, RS S s → ∃ s', appH size bytes s x news m = some (v, s') ∧ RS S' s' := by
  unfold appHK at h
  split at h
  · rcases bK_ok h with ⟨h1, h2⟩ | ⟨h1, h2⟩
    · cases h2
    · obtain ⟨h3, h4⟩ := bK_t h2
      have h5 := new_ok h4
      cases h5
      have hm : m ≠ 0 := Nat.ne_of_beq_eq_false h1
      exact ⟨rfl, Evo.mk' _ _, fun s hS => ⟨_, by simp only [appH]; rw [if_neg hm, if_pos h3, hS.nx], hS.new _⟩⟩
  · rename_i z' b q n'
    obtain ⟨z, cs, t', h1, h2⟩ := cellsK_ok h
    obtain ⟨h3, h4⟩ := bK_t h2
    have h5 := new_ok h4
    cases h5
    simp only [Bool.and_eq_true] at h3
    obtain ⟨a1, a2, a3, a4⟩ := h3
    refine ⟨rfl, (Evo.upd _ _ _).trans (Evo.mk' _ _), fun s hS => ⟨_, ?_, (hS.upd h1 _).new _⟩⟩
    simp only [appH, hS.at_ b _ h1]
    rw [if_pos ⟨beq_n a1, beq_n a2, beq_n a3, a4⟩]
    show _ = some (AV.hs size (S.upd b .dead).nx 0 (n' + m), _)
    rw [upd_nx, hS.nx]
  · cases h
end
end Go.Ab
