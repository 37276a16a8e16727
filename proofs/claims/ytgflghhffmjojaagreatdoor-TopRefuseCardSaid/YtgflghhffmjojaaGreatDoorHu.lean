/- A run with unknowns cut into pieces: what is seen at a piece's end; rounds of a loop; a call whose turn is written down. No conditions. -/
import Derived.Test.YtgflghhffmjojaaGreatDoorHm
import Derived.Test.YtgflghhffmjojaaGreatDoorHf
set_option linter.unusedSimpArgs false
set_option linter.unusedVariables false
set_option linter.unusedSectionVars false
set_option maxRecDepth 100000
namespace Go.Ab
open Go
/-- What is seen of a piece's end: how it ended, slots, the next block's number, some blocks. -/
abbrev SeenT := Option (Ex × List AV × Nat × List (Option Obj))
noncomputable def seeT (U : List Nt) (x : Ex) (E : FE) (S : FS) (n : Nat) (bs : List Nat) : SeenT := @Bool.rec (fun _ => SeenT) none (some (x, (List.range n).map (FE.at E), S.nx, bs.map (fun b => (S.at b).map FB.o))) (saidIn U S.log.notes)
noncomputable def FO.seenT (r : FO) (U : List Nt) (n : Nat) (bs : List Nat) : SeenT := @FO.rec (fun _ => SeenT) none (fun E S => seeT U .nrm E S n bs) (fun i E S => seeT U (.exit i) E S n bs) (fun E S => seeT U .ret E S n bs) r
noncomputable def mkH (l : List (Nat × Obj)) (c : Nat) : Tr FB := @List.rec (Nat × Obj) (fun _ => Tr FB) .nil (fun p _ ih => (hpN p.1).f ⟨p.2, c⟩ ih) l
noncomputable def mkS (N : Nat) (l : List (Nat × Obj)) (o : List AV) : FS := ⟨mkH l 0, N, 1, ⟨[], o⟩⟩
theorem mkH_at (c : Nat) : ∀ (l : List (Nat × Obj)) (b : Nat) (x : FB), (hgN b).f (mkH l c) = some x → x.t = c ∧ (b, x.o) ∈ l := by
  intro l
  induction l with
  | nil => intro b x h; rw [show mkH [] c = .nil from rfl, at_nilH] at h; cases h
  | cons p l ih =>
    intro b x h
    have h : (hgN b).f ((hpN p.1).f ⟨p.2, c⟩ (mkH l c)) = some x := h
    rw [hg_hp] at h
    split at h
    · rename_i e
      cases h
      exact ⟨rfl, by rw [e]; simp⟩
    · obtain ⟨h1, h2⟩ := ih b x h
      exact ⟨h1, List.mem_cons_of_mem _ h2⟩
section
variable {g : Sg} {cx : Nat → List AV → AV → Prop} {gl : Nat → AV} {call : FCall} {call' : Calls'} {n : Nat}
/-- What is in some blocks is enough. -/
theorem RT.less {S S2 : FS} {s : St} (h : RT g S s) (hN : S2.nx = S.nx) (hl : ∀ b x, S2.at b = some x → (S.at b).map FB.o = some x.o) (ht : ∀ b x, S2.at b = some x → x.t < S2.ck) : RT g S2 s := by
  have hx : ∀ b x, S2.at b = some x → ∃ y, S.at b = some y ∧ y.o = x.o := fun b x hb => Option.map_eq_some_iff.1 (hl b x hb)
  refine ⟨by rw [hN]; exact h.nx, by rw [hN]; exact h.n0, fun b x hb => ?_, fun b x hb => ?_, fun a b x y ha hb hr => ?_, h.wf, ht⟩
  · obtain ⟨y, h1, h2⟩ := hx b x hb
    rw [← h2]; exact h.at_ b y h1
  · obtain ⟨y, h1, h2⟩ := hx b x hb
    rw [hN]; exact h.lt b y h1
  · obtain ⟨u, h1, _⟩ := hx a x ha
    obtain ⟨v, h2, _⟩ := hx b y hb
    exact h.inj a b u v h1 h2 hr
theorem map_at {α β : Type} {f : α → β} {k : α → β} {l : List α} (h : l.map f = l.map k) : ∀ p ∈ l, f p = k p := by
  induction l with
  | nil => intro p hp; cases hp
  | cons a l ih =>
    simp only [List.map_cons, List.cons.injEq] at h
    intro p hp
    rcases List.mem_cons.1 hp with rfl | hp
    · exact h.1
    · exact ih h.2 p hp
theorem RT.mkS {S : FS} {s : St} (h : RT g S s) {N : Nat} (hN : S.nx = N) {l : List (Nat × Obj)} (hl : ∀ p ∈ l, (S.at p.1).map FB.o = some p.2) (o : List AV) : RT g (Ab.mkS N l o) s := by
  refine h.less hN.symm (fun b x hx => ?_) (fun b x hx => ?_)
  · obtain ⟨_, h2⟩ := mkH_at 0 l b x hx
    exact hl _ h2
  · rw [(mkH_at 0 l b x hx).1]; exact Nat.zero_lt_one
theorem ET.vals {E : FE} {e : Env} (h : ET g n E e) {vals : List AV} (hv : (List.range n).map (FE.at E) = vals) : ET g n (envK vals 0) e := by
  obtain ⟨e0, h0, rfl⟩ := h
  refine ⟨e0, ⟨h0.len, h0.le, fun i hi => ?_⟩, rfl⟩
  have hvl : vals.length = n := by rw [← hv]; simp
  have hle := h0.le
  rw [envK_at vals 0 i (by omega) hi, if_pos (Nat.zero_le _), Nat.sub_zero, List.getD_eq_getElem?_getD, ← hv, List.getElem?_map]
  by_cases hin : i < n
  · rw [List.getElem?_range hin]
    exact h0.fe i
  · rw [List.getElem?_eq_none (by simp; omega)]
    exact (at_ge (by rw [h0.len]; omega)).symm
theorem see_use {U : List Nt} {x y : Ex} {E : FE} {S : FS} {bs : List Nat} {vals : List AV} {N : Nat} {os : List (Option Obj)} (h : seeT U y E S n bs = some (x, vals, N, os)) : saidIn U S.log.notes = true ∧ y = x ∧ (List.range n).map (FE.at E) = vals ∧ S.nx = N ∧ bs.map (fun b => (S.at b).map FB.o) = os := by
  unfold seeT at h
  cases hq : saidIn U S.log.notes with
  | false => rw [hq] at h; cases h
  | true => rw [hq] at h; cases h; exact ⟨rfl, rfl, rfl, rfl, rfl⟩
theorem seenT_use {S : FS} {s : St} {r : FO} {q : Out} (h : SimO g cx n S s r q) {U : List Nt} {x : Ex} {vals : List AV} {N : Nat} {l : List (Nat × Obj)}
    (hs : r.seenT U n (l.map (·.1)) = some (x, vals, N, l.map (fun p => some p.2))) (hU : ∀ a ∈ U, NtOk g cx a) (hS : RT g S s) (o : List AV) :
    ∃ e' s', q = some (x, e', s') ∧ ET g n (envK vals 0) e' ∧ RT g (Ab.mkS N l o) s' := by
  have key : ∀ (y : Ex) (E' : FE) (S' : FS), seeT U y E' S' n (l.map (·.1)) = some (x, vals, N, l.map (fun p => some p.2)) → (GoodT g cx S' → RT g S s → ∃ e' s', q = some (y, e', s') ∧ ET g n E' e' ∧ RT g S' s') →
      ∃ e' s', q = some (x, e', s') ∧ ET g n (envK vals 0) e' ∧ RT g (Ab.mkS N l o) s' := by
    intro y E' S' hs h2
    obtain ⟨h1, rfl, h3, h4, h5⟩ := see_use hs
    obtain ⟨e', s', q1, q2, q3⟩ := h2 (said_ok h1 hU) hS
    rw [List.map_map] at h5
    exact ⟨e', s', q1, q2.vals h3, q3.mkS h4 (map_at h5) o⟩
  cases r with
  | bad => cases hs
  | nrm E' S' => exact key .nrm E' S' hs h.2.2
  | exit i E' S' => exact key (.exit i) E' S' hs h.2.2
  | ret E' S' => exact key .ret E' S' hs h.2.2
/-! ### Rounds -/
noncomputable def rndK (f : FE → FS → FO) (live : List Bool) (m : Nat) : FE → FS → FO := @Nat.rec (fun _ => (FE → FS → FO) → List Bool → FE → FS → FO) (fun _ _ E S => .nrm E S) (fun _ ih f live E S => seqK (f (keepE E live) S) (ih f live)) m f live
def SimR (g : Sg) (cx : Nat → List AV → AV → Prop) (n : Nat) (gg : Env → St → Out) (live : List Bool) (m : Nat) (S : FS) (e : Env) (s : St) (r : FO) : Prop :=
  match r with
  | .nrm E' S' => Evo S S' ∧ (GoodT g cx S' → RT g S s → ∃ e' s', (∀ k, iter gg live (m + k) e s = iter gg live k e' s') ∧ ET g n E' e' ∧ RT g S' s')
  | _ => True
theorem rnd_sim {f : FE → FS → FO} {gg : Env → St → Out} {live : List Bool} (hl : live.length = n) (hf : ∀ (E' : FE) (e' : Env) (S' : FS) (s' : St), ET g n E' e' → SimO g cx n S' s' (f E' S') (gg e' s')) :
    ∀ (m : Nat) (E : FE) (e : Env) (S : FS) (s : St), ET g n E e → SimR g cx n gg live m S e s (rndK f live m E S) := by
  intro m
  induction m with
  | zero => intro E e S s hE; exact ⟨Evo.refl _, fun _ hS => ⟨e, s, fun k => by rw [Nat.zero_add], hE, hS⟩⟩
  | succ m ih =>
    intro E e S s hE
    have h1 := fun s => hf _ _ S s (keep_ok hE hl)
    show SimR g cx n gg live (m + 1) S e s (seqK (f (keepE E live) S) (rndK f live m))
    cases hr : f (keepE E live) S with
    | bad => trivial
    | exit i E1 S1 => trivial
    | ret E1 S1 => trivial
    | nrm E1 S1 =>
      show SimR g cx n gg live (m + 1) S e s (rndK f live m E1 S1)
      have h1' := fun s => by have := h1 s; rw [hr] at this; exact this
      obtain ⟨e0, h0⟩ := (h1' s).2.1
      have h2 := ih E1 e0 S1 s h0
      cases hq : rndK f live m E1 S1 with
      | bad => trivial
      | exit i E2 S2 => trivial
      | ret E2 S2 => trivial
      | nrm E2 S2 =>
        rw [hq] at h2
        refine ⟨(h1' s).1.trans h2.1, fun hG hS => ?_⟩
        obtain ⟨e1, s1, q1, q2, q3⟩ := (h1' s).2.2 (fun a ha => hG a (h2.1.log a ha)) hS
        have h3 := ih E1 e1 S1 s1 q2
        rw [hq] at h3
        obtain ⟨e2, s2, r1, r2⟩ := h3.2 hG q3
        refine ⟨e2, s2, fun k => ?_, r2⟩
        rw [← r1 k, show m + 1 + k = (m + k) + 1 by omega]
        show seqR (gg (maskE live e) s) (iter gg live (m + k)) = _
        rw [q1]; rfl
theorem hmask_mask : ∀ (l : List Bool) (e : Env), maskE l (maskE l e) = maskE l e := by
  intro l
  induction l with
  | nil => intro e; cases e <;> rfl
  | cons b l ih => intro e; cases e with
    | nil => rfl
    | cons v e => simp only [maskE, ih]; cases b <;> rfl
theorem hiter_mask (gg : Env → St → Out) (live : List Bool) (k : Nat) (e : Env) (s : St) : iter gg live k (maskE live e) s = iter gg live k e s := by
  cases k with
  | zero => rfl
  | succ k => show seqR (gg (maskE live (maskE live e)) s) _ = seqR (gg (maskE live e) s) _; rw [hmask_mask]
/-- What lives on alone is kept. -/
noncomputable def FO.kept (r : FO) (live : List Bool) : FO := @FO.rec (fun _ => FO) .bad (fun E S => .nrm (keepE E live) S) (fun i E S => .exit i E S) (fun E S => .ret E S) r
/-- So many rounds, seen. -/
theorem rnd_use {f : FE → FS → FO} {gg : Env → St → Out} {live : List Bool} (hl : live.length = n) (hf : ∀ (E' : FE) (e' : Env) (S' : FS) (s' : St), ET g n E' e' → SimO g cx n S' s' (f E' S') (gg e' s'))
    {m : Nat} {E : FE} {e : Env} {S : FS} {s : St} (hE : ET g n E e) {U : List Nt} {vals : List AV} {N : Nat} {l : List (Nat × Obj)} (hs : ((rndK f live m E S).kept live).seenT U n (l.map (·.1)) = some (.nrm, vals, N, l.map (fun p => some p.2))) (hU : ∀ a ∈ U, NtOk g cx a) (hS : RT g S s) (o : List AV) :
    ∃ e' s', (∀ k, iter gg live (m + k) e s = iter gg live k e' s') ∧ ET g n (envK vals 0) e' ∧ RT g (Ab.mkS N l o) s' := by
  have h := rnd_sim (g := g) (cx := cx) hl hf m E e S s hE
  cases hr : rndK f live m E S with
  | bad => rw [hr] at hs; cases hs
  | exit i E' S' => rw [hr] at hs; obtain ⟨_, h2, _⟩ := see_use (show seeT U (.exit i) E' S' n (l.map (·.1)) = _ from hs); cases h2
  | ret E' S' => rw [hr] at hs; obtain ⟨_, h2, _⟩ := see_use (show seeT U .ret E' S' n (l.map (·.1)) = _ from hs); cases h2
  | nrm E' S' =>
    rw [hr] at hs h
    obtain ⟨h1, _, h3, h4, h5⟩ := see_use (show seeT U .nrm (keepE E' live) S' n (l.map (·.1)) = _ from hs)
    obtain ⟨e', s', q1, q2, q3⟩ := h.2 (said_ok h1 hU) hS
    rw [List.map_map] at h5
    exact ⟨maskE live e', s', fun k => by rw [q1]; exact (hiter_mask gg live k e' s').symm, (keep_ok q2 hl).vals h3, q3.mkS h4 (map_at h5) o⟩
theorem RT.orc {N : Nat} {l : List (Nat × Obj)} {o : List AV} {s : St} (h : RT g (Ab.mkS N l o) s) (o' : List AV) : RT g (Ab.mkS N l o') s := ⟨h.nx, h.n0, h.at_, h.lt, h.inj, h.wf, h.ts⟩
/-! ### A call whose turn is written down -/
/-- From these blocks, with the next block's number N, to those. -/
structure Tr2 where
  args : List AV
  N : Nat
  l : List (Nat × Obj)
  v : AV
  N' : Nat
  l' : List (Nat × Obj)
noncomputable def hasB (S : FS) (l : List (Nat × Obj)) : Bool := l.all fun p => sameO ((S.at p.1).map FB.o) (some p.2)
noncomputable def goTr (t : Tr2) (args : List AV) (S : FS) : FR := @Bool.rec (fun _ => FR) .bad (.ok t.v ⟨mkH t.l' S.ck, t.N', Nat.succ S.ck, S.log⟩ 2) (sameL t.args args && (Nat.beq S.nx t.N && (Nat.ble t.N t.N' && hasB S t.l)))
noncomputable def tryTr (args : List AV) (S : FS) (ts : List Tr2) : FR := @List.rec Tr2 (fun _ => FR) .bad (fun t _ ih => @FR.rec (fun _ => FR) ih (fun v S' k => .ok v S' k) (goTr t args S)) ts
noncomputable def callTr (f0 : Nat) (ts : List Tr2) (call : FCall) (f : Nat) (args : List AV) (S : FS) : FR := @Bool.rec (fun _ => FR) (call f args S) (tryTr args S ts) (Nat.beq f f0)
/-- A turn is so. -/
def TrOk (g : Sg) (call' : Calls') (f : Nat) (t : Tr2) : Prop := ∀ s, RT g (Ab.mkS t.N t.l []) s → ∃ s', call' f (svL g t.args) s = some (sv g t.v, s') ∧ RT g (Ab.mkS t.N' t.l' []) s'
theorem tick_less (c : Nat) (b : Nat) : ∀ (l : List (Nat × Obj)) (x : FB), (hgN b).f (mkH l c) = some x → ((hgN b).f (mkH l 0)).map FB.o = some x.o := by
  intro l
  induction l with
  | nil => intro x hx; rw [show mkH [] c = .nil from rfl, at_nilH] at hx; cases hx
  | cons p l ih =>
    intro x hx
    have hx : (hgN b).f ((hpN p.1).f ⟨p.2, c⟩ (mkH l c)) = some x := hx
    show ((hgN b).f ((hpN p.1).f ⟨p.2, 0⟩ (mkH l 0))).map FB.o = some x.o
    rw [hg_hp] at hx ⊢
    split at hx
    · rename_i e
      rw [if_pos e]
      cases hx; rfl
    · rename_i e
      rw [if_neg e]
      exact ih x hx
theorem goTr_T {f : Nat} {t : Tr2} (ht : TrOk g call' f t) {args : List AV} {S : FS} {v : AV} {S' : FS} {k : Nat} (hg : goTr t args S = .ok v S' k) :
    Evo S S' ∧ ∀ s, GoodT g cx S' → RT g S s → ∃ s', call' f (svL g args) s = some (sv g v, s') ∧ RT g S' s' := by
  unfold goTr at hg
  cases hq : (sameL t.args args && (Nat.beq S.nx t.N && (Nat.ble t.N t.N' && hasB S t.l))) with
  | false => rw [hq] at hg; cases hg
  | true =>
    rw [hq] at hg
    cases hg
    simp only [Bool.and_eq_true] at hq
    obtain ⟨h1, h2, h3, h4⟩ := hq
    have e1 := sameL_eq _ _ h1
    have e2 := beq_n h2
    have hb : ∀ p ∈ t.l, (S.at p.1).map FB.o = some p.2 := fun p hp => sameO_eq (List.all_eq_true.1 h4 p hp)
    refine ⟨⟨Nat.le_succ _, by rw [e2]; exact ble_le h3, fun b x hx hlt => ?_, fun _ ha => ha⟩, fun s hG hS => ?_⟩
    · have := (mkH_at S.ck t.l' b x hx).1
      omega
    · obtain ⟨s', q1, q2⟩ := ht s (hS.mkS e2 hb [])
      refine ⟨s', by rw [← e1]; exact q1, q2.less rfl (fun b x hx => ?_) (fun b x hx => ?_)⟩
      · exact tick_less S.ck b t.l' x hx
      · have := (mkH_at S.ck t.l' b x hx).1
        show x.t < Nat.succ S.ck
        omega
theorem tryTr_T {f : Nat} {args : List AV} {S : FS} {v : AV} {S' : FS} {k : Nat} : ∀ {ts : List Tr2}, (∀ t ∈ ts, TrOk g call' f t) → tryTr args S ts = .ok v S' k →
    Evo S S' ∧ ∀ s, GoodT g cx S' → RT g S s → ∃ s', call' f (svL g args) s = some (sv g v, s') ∧ RT g S' s' := by
  intro ts
  induction ts with
  | nil => intro _ h; cases h
  | cons t ts ih =>
    intro ht h
    have h : @FR.rec (fun _ => FR) (tryTr args S ts) (fun v S' k => .ok v S' k) (goTr t args S) = .ok v S' k := h
    cases hg : goTr t args S with
    | bad => rw [hg] at h; exact ih (fun t ht' => ht t (List.mem_cons_of_mem _ ht')) h
    | ok v1 S1 k1 =>
      rw [hg] at h
      cases h
      exact goTr_T (ht t (by simp)) hg
theorem callTr_T {f0 : Nat} {ts : List Tr2} (hc : CallT g cx call call') (ht : ∀ t ∈ ts, TrOk g call' f0 t) : CallT g cx (callTr f0 ts call) call' := by
  intro f args S v S' k h
  have h2 : @Bool.rec (fun _ => FR) (call f args S) (tryTr args S ts) (Nat.beq f f0) = .ok v S' k := h
  cases hf : Nat.beq f f0 with
  | false => rw [hf] at h2; exact hc f args S v S' k h2
  | true =>
    rw [hf] at h2
    have := beq_n hf
    subst this
    exact tryTr_T ht h2
end
end Go.Ab
set_option linter.unusedSimpArgs false
set_option linter.unusedVariables false
set_option maxRecDepth 100000
set_option maxHeartbeats 4000000
namespace Go.Proofs.YtgflghhffmjojaaGreatDoor
open Go Go.Ab
/-- Slots ahead of Run's rounds. -/
def e15 (c n : AV) : Env := [c, n, .undef, .undef, .nils, .nils, .int .i64 0] ++ List.replicate 10 .undef
def end15 : MC := match M15.body with
  | .seq _ (.seq _ (.seq _ e)) => e
  | c => c
theorem m15_loop (call : Calls') (k : Nat) (c n : AV) (s : St) : evC tabGl call k M15.body (env0 17 [c, n]) s = seqR (blockR 0 (iter (evC tabGl call k M15b0) M15b0l k (e15 c n) s)) (evC tabGl call k end15) := rfl
theorem run_of {call : Calls'} {k : Nat} {c n : AV} {s s4 : St} {e4 : Env} (hi : iter (evC tabGl call k M15b0) M15b0l k (e15 c n) s = some (.exit 0, e4, s4)) (hl : e4.length = 17) (hf : ∀ s, Ab.freeze 5 s (e4.at 5) = some (e4.at 5, s)) :
    outR M15.res (evC tabGl call k M15.body (env0 17 [c, n]) s) = some (e4.at 5, s4) := by
  rw [m15_loop, hi]
  have h1 : ∀ v, Env.at ((e4.set 16 v).set 4 v) 4 = v := fun v => by simp [Env.at, hl]
  have h2 : ∀ v, Env.at (e4.set 16 v) 16 = v := fun v => by simp [Env.at, hl]
  show outR M15.res (evC tabGl call k end15 e4 s4) = _
  show (match resVs ((e4.set 16 (e4.at 5)).set 4 (Env.at (e4.set 16 (e4.at 5)) 16)) s4 M15.res with | some (vs, s') => some (oneOr vs, s') | none => none) = _
  rw [h2]
  have h3 : resVs ((e4.set 16 (e4.at 5)).set 4 (e4.at 5)) s4 [.tmp 5 4] = some ([e4.at 5], s4) := by simp only [resVs, resV, h1, hf]
  show (match resVs ((e4.set 16 (e4.at 5)).set 4 (e4.at 5)) s4 [.tmp 5 4] with | some (vs, s') => some (oneOr vs, s') | none => none) = _
  rw [h3]
  rfl
theorem evM_in {k f : Nat} {m : MFun} (hx : extM f = none) (hF : tableOf Tryz.prog f = some m) (args : List AV) (s : St) : evM (k + 1) f args s = outR m.res (evC tabGl (evM k) k m.body (env0 m.ntmps args) s) := by
  simp only [evM, evF, hx, hF]
/-- The rounds of Run, by the quick evaluator. -/
noncomputable def fR (R : MT) : FE → FS → FO := fun E S => (cB tabGl 17 M15b0).c 598 (fM R 598) E S
theorem fR_sim {g : Sg} {R : MT} (hk : R.map Prod.fst = PF) (hR : RGood g R) (E : FE) (e : Env) (S : FS) (s : St) (hE : ET g 17 E e) : SimO g cxM 17 S s (fR R E S) (evC tabGl (evM 598) 598 M15b0 e s) := code_sim tab_plain (fM_T hk hR 598) 598 M15b0 E e S s hE
theorem e15_ok (g : Sg) (c n : AV) : ET g 17 (envK [c, n, .undef, .undef, .nils, .nils, .int .i64 0] 0) (e15 (sv g c) (sv g n)) := by
  have := env_ok (g := g) (n := 17) (args := [c, n, .undef, .undef, .nils, .nils, .int .i64 0]) (Nat.le_of_ble_eq_true rfl) (Nat.le_of_ble_eq_true rfl)
  exact this
/-- The whole of Run's loop: so many rounds, then its end. -/
theorem run_tr {g : Sg} {R : MT} (hk : R.map Prod.fst = PF) (hR : RGood g R) {p : Nat} {n : Int} {s s3 : St} {m k : Nat} (hm : m + (k + 1) = 598) {e3 : Env} {v3 : List AV} {N3 : Nat} {l3 : List (Nat × Ab.Obj)}
    (hi : ∀ k, iter (evC tabGl (evM 598) 598 M15b0) M15b0l (m + k) (e15 (.ptr (g.r p) 0) (.int .i64 n)) s = iter (evC tabGl (evM 598) 598 M15b0) M15b0l k e3 s3) (hE : ET g 17 (envK v3 0) e3) (hS : RT g (Ab.mkS N3 l3 []) s3)
    {v4 : List AV} {N4 : Nat} {l4 : List (Nat × Ab.Obj)} (hx : (fR R (keepE (envK v3 0) M15b0l) (Ab.mkS N3 l3 [])).seenT [] 17 (l4.map (·.1)) = some (.exit 0, v4, N4, l4.map (fun p => some p.2))) {told : AV} (ht : FE.at (envK v4 0) 5 = told) (hfr : ∀ s, Ab.freeze 5 s (sv g told) = some (sv g told, s)) :
    ∃ s', evM 599 15 [.ptr (g.r p) 0, .int .i64 n] s = some (sv g told, s') ∧ RT g (Ab.mkS N4 l4 []) s' := by
  have hl : M15b0l.length = 17 := rfl
  obtain ⟨e4, s4, q1, q2, q3⟩ := seenT_use (fR_sim hk hR _ _ _ s3 (keep_ok hE hl)) hx all_nil hS []
  have hi2 : iter (evC tabGl (evM 598) 598 M15b0) M15b0l 598 (e15 (.ptr (g.r p) 0) (.int .i64 n)) s = some (.exit 0, e4, s4) := by
    have h0 := hi (k + 1)
    rw [hm] at h0
    rw [h0]
    show seqR (evC tabGl (evM 598) 598 M15b0 (maskE M15b0l e3) s3) _ = _
    rw [q1]; rfl
  have ha : e4.at 5 = sv g told := by rw [q2.at 5, ht]
  have hlen : e4.length = 17 := by
    obtain ⟨e0, h0, rfl⟩ := q2
    rw [svL_len]; exact h0.len
  have := run_of hi2 hlen (by rw [ha]; exact hfr)
  rw [ha] at this
  exact ⟨s4, (evM_in rfl tab15 _ s).trans this, q3⟩
end Go.Proofs.YtgflghhffmjojaaGreatDoor
