/- TopComes: what is ahead of the rounds. No conditions. -/
import Derived.Test.YtgflghhffmjojaaGreatDoorFz
set_option linter.unusedVariables false
set_option maxRecDepth 1000000
set_option maxHeartbeats 4000000
namespace Go.Proofs.YtgflghhffmjojaaGreatDoor.comes
open Go Go.Ab
def sq1 : MC → MC
  | .seq a _ => a
  | c => c
def sq2 : MC → MC
  | .seq _ b => b
  | c => c
def c0 : MC := sq1 M7.body
def r0 : MC := sq2 M7.body
def c1 : MC := sq1 r0
def r1 : MC := sq2 r0
def c2 : MC := sq1 r1
def r2 : MC := sq2 r1
def c3 : MC := sq1 r2
def r3 : MC := sq2 r2
def c4 : MC := sq1 r3
def r4 : MC := sq2 r3
def c5 : MC := sq1 r4
def r5 : MC := sq2 r4
def cX : MC := sq1 r5
def c8 : MC := sq1 M7r4
def c9 : MC := sq1 (sq1 (sq2 M7r4))
def dA : MC := sq1 M7b3
def bX : MC := match sq1 (sq2 M7b3) with
  | .block _ a => a
  | c => c
def d1 : MC := sq1 bX
def d2 : MC := sq1 (sq2 bX)
def d3 : MC := sq1 (sq1 (sq2 (sq2 bX)))
noncomputable abbrev cv (c : MC) (e : Env) (s : St) : Out := evC tabGl (ev3 599) 599 c e s
noncomputable abbrev fv7 (c : MC) (E : List AV) (N : Nat) (B : List (Nat × Ab.Obj)) : FO := (cB tabGl 89 c).c 599 (fQ 599) (envK E 0) (mkS N B)
noncomputable abbrev fo7 (c : MC) (E : List AV) (N : Nat) (B : List (Nat × Ab.Obj)) : FO := (cB tabGl 89 c).c 599 (fQo 599) (envK E 0) (mkS N B)
/-- So many rounds of a loop. -/
noncomputable def fRep (f : FE → FS → FO) (live : List Bool) (m : Nat) : FE → FS → FO := @Nat.rec (fun _ => FE → FS → FO) (fun E S => .nrm E S) (fun _ ih E S => seqK (f (keepE E live) S) ih) m
def evRep (g : Env → St → Out) (live : List Bool) : Nat → Env → St → Out
  | 0, e, s => some (.nrm, e, s)
  | m + 1, e, s => seqR (g (maskE live e) s) (evRep g live m)
theorem rep_sim {G : List AV → Prop} {n : Nat} {f : FE → FS → FO} {g : Env → St → Out} {live : List Bool} (hl : live.length = n) (hf : ∀ (E' : FE) (e' : Env) (S' : FS) (s' : St), RE n E' e' → SimO G n S' s' (f E' S') (g e' s')) :
    ∀ (m : Nat) (E : FE) (e : Env) (S : FS) (s : St), RE n E e → SimO G n S s (fRep f live m E S) (evRep g live m e s) := by
  intro m
  induction m with
  | zero => intro E e S s hE; exact ⟨Evo.refl _, ⟨e, hE⟩, fun _ hS => ⟨e, s, rfl, hE, hS⟩⟩
  | succ m ih => intro E e S s hE; exact seq_sim (hf _ _ S s (keep_ok hE hl)) fun E' e' S' s' hE' => ih E' e' S' s' hE'
theorem iter_rep {g : Env → St → Out} {live : List Bool} : ∀ (m k : Nat) (e e' : Env) (s s' : St), evRep g live m e s = some (.nrm, e', s') → iter g live (m + k) e s = iter g live k e' s' := by
  intro m
  induction m with
  | zero => intro k e e' s s' h; cases h; rw [Nat.zero_add]
  | succ m ih =>
    intro k e e' s s' h
    rw [show m + 1 + k = (m + k) + 1 by omega]
    have h : seqR (g (maskE live e) s) (evRep g live m) = some (.nrm, e', s') := h
    show seqR (g (maskE live e) s) (iter g live (m + k)) = _
    cases hg : g (maskE live e) s with
    | none => rw [hg] at h; cases h
    | some p =>
      obtain ⟨x, e1, s1⟩ := p
      rw [hg] at h
      cases x with
      | nrm => exact ih k e1 e' s1 s' h
      | exit i => cases h
      | ret => cases h
noncomputable abbrev fr7 (m : Nat) (E : List AV) (N : Nat) (B : List (Nat × Ab.Obj)) : FO := fRep ((cB tabGl 89 M7b2).c 599 (fQ 599)) M7b2l m (envK E 0) (mkS N B)
def EA (x ob os ow oz ot : Int) : List AV := [.int .i64 x, .agg [.int .i64 ob,.int .i64 os,.int .i64 ow,.int .i64 oz,.int .i64 ot], .undef, .ptr 0 0, .bool false, .bool true, .undef, .undef, .undef, .undef, .undef, .undef, .undef, .undef, .bool true, .bool true, .bool false, .undef, .undef, .undef, .undef, .undef, .undef, .undef, .undef, .undef, .undef, .undef, .undef, .undef, .undef, .undef, .undef, .undef, .undef, .undef, .undef, .undef, .undef, .undef, .undef, .undef, .undef, .undef, .undef, .undef, .undef, .undef, .undef, .undef, .undef, .undef, .undef, .undef, .undef, .undef, .undef, .undef, .undef, .undef, .undef, .undef, .undef, .undef, .undef, .undef, .undef, .undef, .undef, .undef, .undef, .undef, .undef, .undef, .undef, .undef, .undef, .undef, .undef, .undef, .undef, .undef, .undef, .undef, .undef, .undef, .undef, .undef, .undef]
def BA (x ob os ow oz ot : Int) : List (Nat × Ab.Obj) :=
 [(0, .cells 0 [.int .i64 ob,.int .i64 os,.int .i64 ow,.int .i64 oz,.int .i64 ot])]
theorem pA (x ob os ow oz ot : Int) : ((cB tabGl 89 (.seq (.seq c0 c1) c2)).c 599 (fQ 599) (envK [.int .i64 x, .agg [.int .i64 ob, .int .i64 os, .int .i64 ow, .int .i64 oz, .int .i64 ot]] 0) FS.nil).seen 89 ((BA x ob os ow oz ot).map (·.1)) = some (.nrm, EA x ob os ow oz ot, 5005, (BA x ob os ow oz ot).map (fun p => some p.2), []) := by kernel_rfl
abbrev agr (ob os ow oz ot : Int) : List AV := [.agg [.int .i64 (or1 (andI ob 15)), .int .i64 (or1 (andI os 7)), .int .i64 (mx1 (andI ow 127)), .int .i64 (mx1 (andI oz 15)), .int .i64 (mx1 (andI ot 7))]]
end Go.Proofs.YtgflghhffmjojaaGreatDoor.comes
