/- A quick evaluator: environments and memory are trees; what it answers is what the evaluator answers. Definitions, printed by a program. No conditions. -/
import Derived.Test.YtgflghhffmjojaaGreatDoorHn
set_option linter.unusedVariables false
namespace Go.Ab
open Go
inductive D8 where
  | d0 | d1 | d2 | d3 | d4 | d5 | d6 | d7
inductive Tr (α : Type) where
  | nil
  | nd (v : Option α) (c0 c1 c2 c3 c4 c5 c6 c7 : Tr α)
structure FB where
  o : Obj
  t : Nat
noncomputable def gB0 (t : Tr FB) : Tr FB := @Tr.rec FB (fun _ => Tr FB) .nil (fun _ c0 c1 c2 c3 c4 c5 c6 c7 _ _ _ _ _ _ _ _ => c0) t
noncomputable def gB1 (t : Tr FB) : Tr FB := @Tr.rec FB (fun _ => Tr FB) .nil (fun _ c0 c1 c2 c3 c4 c5 c6 c7 _ _ _ _ _ _ _ _ => c1) t
noncomputable def gB2 (t : Tr FB) : Tr FB := @Tr.rec FB (fun _ => Tr FB) .nil (fun _ c0 c1 c2 c3 c4 c5 c6 c7 _ _ _ _ _ _ _ _ => c2) t
noncomputable def gB3 (t : Tr FB) : Tr FB := @Tr.rec FB (fun _ => Tr FB) .nil (fun _ c0 c1 c2 c3 c4 c5 c6 c7 _ _ _ _ _ _ _ _ => c3) t
noncomputable def gB4 (t : Tr FB) : Tr FB := @Tr.rec FB (fun _ => Tr FB) .nil (fun _ c0 c1 c2 c3 c4 c5 c6 c7 _ _ _ _ _ _ _ _ => c4) t
noncomputable def gB5 (t : Tr FB) : Tr FB := @Tr.rec FB (fun _ => Tr FB) .nil (fun _ c0 c1 c2 c3 c4 c5 c6 c7 _ _ _ _ _ _ _ _ => c5) t
noncomputable def gB6 (t : Tr FB) : Tr FB := @Tr.rec FB (fun _ => Tr FB) .nil (fun _ c0 c1 c2 c3 c4 c5 c6 c7 _ _ _ _ _ _ _ _ => c6) t
noncomputable def gB7 (t : Tr FB) : Tr FB := @Tr.rec FB (fun _ => Tr FB) .nil (fun _ c0 c1 c2 c3 c4 c5 c6 c7 _ _ _ _ _ _ _ _ => c7) t
noncomputable def topB (t : Tr FB) : Option FB := @Tr.rec FB (fun _ => Option FB) none (fun v c0 c1 c2 c3 c4 c5 c6 c7 _ _ _ _ _ _ _ _ => v) t
noncomputable def pB0 (f : Tr FB → Tr FB) (t : Tr FB) : Tr FB := @Tr.rec FB (fun _ => (Tr FB → Tr FB) → Tr FB) (fun f => .nd none (f .nil) .nil .nil .nil .nil .nil .nil .nil) (fun w c0 c1 c2 c3 c4 c5 c6 c7 _ _ _ _ _ _ _ _ f => .nd w (f c0) c1 c2 c3 c4 c5 c6 c7) t f
noncomputable def pB1 (f : Tr FB → Tr FB) (t : Tr FB) : Tr FB := @Tr.rec FB (fun _ => (Tr FB → Tr FB) → Tr FB) (fun f => .nd none .nil (f .nil) .nil .nil .nil .nil .nil .nil) (fun w c0 c1 c2 c3 c4 c5 c6 c7 _ _ _ _ _ _ _ _ f => .nd w c0 (f c1) c2 c3 c4 c5 c6 c7) t f
noncomputable def pB2 (f : Tr FB → Tr FB) (t : Tr FB) : Tr FB := @Tr.rec FB (fun _ => (Tr FB → Tr FB) → Tr FB) (fun f => .nd none .nil .nil (f .nil) .nil .nil .nil .nil .nil) (fun w c0 c1 c2 c3 c4 c5 c6 c7 _ _ _ _ _ _ _ _ f => .nd w c0 c1 (f c2) c3 c4 c5 c6 c7) t f
noncomputable def pB3 (f : Tr FB → Tr FB) (t : Tr FB) : Tr FB := @Tr.rec FB (fun _ => (Tr FB → Tr FB) → Tr FB) (fun f => .nd none .nil .nil .nil (f .nil) .nil .nil .nil .nil) (fun w c0 c1 c2 c3 c4 c5 c6 c7 _ _ _ _ _ _ _ _ f => .nd w c0 c1 c2 (f c3) c4 c5 c6 c7) t f
noncomputable def pB4 (f : Tr FB → Tr FB) (t : Tr FB) : Tr FB := @Tr.rec FB (fun _ => (Tr FB → Tr FB) → Tr FB) (fun f => .nd none .nil .nil .nil .nil (f .nil) .nil .nil .nil) (fun w c0 c1 c2 c3 c4 c5 c6 c7 _ _ _ _ _ _ _ _ f => .nd w c0 c1 c2 c3 (f c4) c5 c6 c7) t f
noncomputable def pB5 (f : Tr FB → Tr FB) (t : Tr FB) : Tr FB := @Tr.rec FB (fun _ => (Tr FB → Tr FB) → Tr FB) (fun f => .nd none .nil .nil .nil .nil .nil (f .nil) .nil .nil) (fun w c0 c1 c2 c3 c4 c5 c6 c7 _ _ _ _ _ _ _ _ f => .nd w c0 c1 c2 c3 c4 (f c5) c6 c7) t f
noncomputable def pB6 (f : Tr FB → Tr FB) (t : Tr FB) : Tr FB := @Tr.rec FB (fun _ => (Tr FB → Tr FB) → Tr FB) (fun f => .nd none .nil .nil .nil .nil .nil .nil (f .nil) .nil) (fun w c0 c1 c2 c3 c4 c5 c6 c7 _ _ _ _ _ _ _ _ f => .nd w c0 c1 c2 c3 c4 c5 (f c6) c7) t f
noncomputable def pB7 (f : Tr FB → Tr FB) (t : Tr FB) : Tr FB := @Tr.rec FB (fun _ => (Tr FB → Tr FB) → Tr FB) (fun f => .nd none .nil .nil .nil .nil .nil .nil .nil (f .nil)) (fun w c0 c1 c2 c3 c4 c5 c6 c7 _ _ _ _ _ _ _ _ f => .nd w c0 c1 c2 c3 c4 c5 c6 (f c7)) t f
structure L16 where
  (c0 c1 c2 c3 c4 c5 c6 c7 c8 c9 c10 c11 c12 c13 c14 c15 : AV)
structure N16 where
  (c0 c1 c2 c3 c4 c5 c6 c7 c8 c9 c10 c11 c12 c13 c14 c15 : L16)
structure LB where
  f : L16 → AV
structure NB where
  f : N16 → L16
structure RB where
  f : N16 → AV
structure LW where
  f : AV → L16 → L16
structure NW where
  f : (L16 → L16) → N16 → N16
structure WB where
  f : AV → N16 → N16
def L16.nil : L16 := ⟨.undef, .undef, .undef, .undef, .undef, .undef, .undef, .undef, .undef, .undef, .undef, .undef, .undef, .undef, .undef, .undef⟩
def N16.nil : N16 := ⟨.nil, .nil, .nil, .nil, .nil, .nil, .nil, .nil, .nil, .nil, .nil, .nil, .nil, .nil, .nil, .nil⟩
noncomputable def lw0 (v : AV) (s : L16) : L16 := @L16.rec (fun _ => AV → L16) (fun c0 c1 c2 c3 c4 c5 c6 c7 c8 c9 c10 c11 c12 c13 c14 c15 v => ⟨v, c1, c2, c3, c4, c5, c6, c7, c8, c9, c10, c11, c12, c13, c14, c15⟩) s v
noncomputable def nw0 (g : L16 → L16) (s : N16) : N16 := @N16.rec (fun _ => (L16 → L16) → N16) (fun c0 c1 c2 c3 c4 c5 c6 c7 c8 c9 c10 c11 c12 c13 c14 c15 g => ⟨g c0, c1, c2, c3, c4, c5, c6, c7, c8, c9, c10, c11, c12, c13, c14, c15⟩) s g
noncomputable def lw1 (v : AV) (s : L16) : L16 := @L16.rec (fun _ => AV → L16) (fun c0 c1 c2 c3 c4 c5 c6 c7 c8 c9 c10 c11 c12 c13 c14 c15 v => ⟨c0, v, c2, c3, c4, c5, c6, c7, c8, c9, c10, c11, c12, c13, c14, c15⟩) s v
noncomputable def nw1 (g : L16 → L16) (s : N16) : N16 := @N16.rec (fun _ => (L16 → L16) → N16) (fun c0 c1 c2 c3 c4 c5 c6 c7 c8 c9 c10 c11 c12 c13 c14 c15 g => ⟨c0, g c1, c2, c3, c4, c5, c6, c7, c8, c9, c10, c11, c12, c13, c14, c15⟩) s g
noncomputable def lw2 (v : AV) (s : L16) : L16 := @L16.rec (fun _ => AV → L16) (fun c0 c1 c2 c3 c4 c5 c6 c7 c8 c9 c10 c11 c12 c13 c14 c15 v => ⟨c0, c1, v, c3, c4, c5, c6, c7, c8, c9, c10, c11, c12, c13, c14, c15⟩) s v
noncomputable def nw2 (g : L16 → L16) (s : N16) : N16 := @N16.rec (fun _ => (L16 → L16) → N16) (fun c0 c1 c2 c3 c4 c5 c6 c7 c8 c9 c10 c11 c12 c13 c14 c15 g => ⟨c0, c1, g c2, c3, c4, c5, c6, c7, c8, c9, c10, c11, c12, c13, c14, c15⟩) s g
noncomputable def lw3 (v : AV) (s : L16) : L16 := @L16.rec (fun _ => AV → L16) (fun c0 c1 c2 c3 c4 c5 c6 c7 c8 c9 c10 c11 c12 c13 c14 c15 v => ⟨c0, c1, c2, v, c4, c5, c6, c7, c8, c9, c10, c11, c12, c13, c14, c15⟩) s v
noncomputable def nw3 (g : L16 → L16) (s : N16) : N16 := @N16.rec (fun _ => (L16 → L16) → N16) (fun c0 c1 c2 c3 c4 c5 c6 c7 c8 c9 c10 c11 c12 c13 c14 c15 g => ⟨c0, c1, c2, g c3, c4, c5, c6, c7, c8, c9, c10, c11, c12, c13, c14, c15⟩) s g
noncomputable def lw4 (v : AV) (s : L16) : L16 := @L16.rec (fun _ => AV → L16) (fun c0 c1 c2 c3 c4 c5 c6 c7 c8 c9 c10 c11 c12 c13 c14 c15 v => ⟨c0, c1, c2, c3, v, c5, c6, c7, c8, c9, c10, c11, c12, c13, c14, c15⟩) s v
noncomputable def nw4 (g : L16 → L16) (s : N16) : N16 := @N16.rec (fun _ => (L16 → L16) → N16) (fun c0 c1 c2 c3 c4 c5 c6 c7 c8 c9 c10 c11 c12 c13 c14 c15 g => ⟨c0, c1, c2, c3, g c4, c5, c6, c7, c8, c9, c10, c11, c12, c13, c14, c15⟩) s g
noncomputable def lw5 (v : AV) (s : L16) : L16 := @L16.rec (fun _ => AV → L16) (fun c0 c1 c2 c3 c4 c5 c6 c7 c8 c9 c10 c11 c12 c13 c14 c15 v => ⟨c0, c1, c2, c3, c4, v, c6, c7, c8, c9, c10, c11, c12, c13, c14, c15⟩) s v
noncomputable def nw5 (g : L16 → L16) (s : N16) : N16 := @N16.rec (fun _ => (L16 → L16) → N16) (fun c0 c1 c2 c3 c4 c5 c6 c7 c8 c9 c10 c11 c12 c13 c14 c15 g => ⟨c0, c1, c2, c3, c4, g c5, c6, c7, c8, c9, c10, c11, c12, c13, c14, c15⟩) s g
noncomputable def lw6 (v : AV) (s : L16) : L16 := @L16.rec (fun _ => AV → L16) (fun c0 c1 c2 c3 c4 c5 c6 c7 c8 c9 c10 c11 c12 c13 c14 c15 v => ⟨c0, c1, c2, c3, c4, c5, v, c7, c8, c9, c10, c11, c12, c13, c14, c15⟩) s v
noncomputable def nw6 (g : L16 → L16) (s : N16) : N16 := @N16.rec (fun _ => (L16 → L16) → N16) (fun c0 c1 c2 c3 c4 c5 c6 c7 c8 c9 c10 c11 c12 c13 c14 c15 g => ⟨c0, c1, c2, c3, c4, c5, g c6, c7, c8, c9, c10, c11, c12, c13, c14, c15⟩) s g
noncomputable def lw7 (v : AV) (s : L16) : L16 := @L16.rec (fun _ => AV → L16) (fun c0 c1 c2 c3 c4 c5 c6 c7 c8 c9 c10 c11 c12 c13 c14 c15 v => ⟨c0, c1, c2, c3, c4, c5, c6, v, c8, c9, c10, c11, c12, c13, c14, c15⟩) s v
noncomputable def nw7 (g : L16 → L16) (s : N16) : N16 := @N16.rec (fun _ => (L16 → L16) → N16) (fun c0 c1 c2 c3 c4 c5 c6 c7 c8 c9 c10 c11 c12 c13 c14 c15 g => ⟨c0, c1, c2, c3, c4, c5, c6, g c7, c8, c9, c10, c11, c12, c13, c14, c15⟩) s g
noncomputable def lw8 (v : AV) (s : L16) : L16 := @L16.rec (fun _ => AV → L16) (fun c0 c1 c2 c3 c4 c5 c6 c7 c8 c9 c10 c11 c12 c13 c14 c15 v => ⟨c0, c1, c2, c3, c4, c5, c6, c7, v, c9, c10, c11, c12, c13, c14, c15⟩) s v
noncomputable def nw8 (g : L16 → L16) (s : N16) : N16 := @N16.rec (fun _ => (L16 → L16) → N16) (fun c0 c1 c2 c3 c4 c5 c6 c7 c8 c9 c10 c11 c12 c13 c14 c15 g => ⟨c0, c1, c2, c3, c4, c5, c6, c7, g c8, c9, c10, c11, c12, c13, c14, c15⟩) s g
noncomputable def lw9 (v : AV) (s : L16) : L16 := @L16.rec (fun _ => AV → L16) (fun c0 c1 c2 c3 c4 c5 c6 c7 c8 c9 c10 c11 c12 c13 c14 c15 v => ⟨c0, c1, c2, c3, c4, c5, c6, c7, c8, v, c10, c11, c12, c13, c14, c15⟩) s v
noncomputable def nw9 (g : L16 → L16) (s : N16) : N16 := @N16.rec (fun _ => (L16 → L16) → N16) (fun c0 c1 c2 c3 c4 c5 c6 c7 c8 c9 c10 c11 c12 c13 c14 c15 g => ⟨c0, c1, c2, c3, c4, c5, c6, c7, c8, g c9, c10, c11, c12, c13, c14, c15⟩) s g
noncomputable def lw10 (v : AV) (s : L16) : L16 := @L16.rec (fun _ => AV → L16) (fun c0 c1 c2 c3 c4 c5 c6 c7 c8 c9 c10 c11 c12 c13 c14 c15 v => ⟨c0, c1, c2, c3, c4, c5, c6, c7, c8, c9, v, c11, c12, c13, c14, c15⟩) s v
noncomputable def nw10 (g : L16 → L16) (s : N16) : N16 := @N16.rec (fun _ => (L16 → L16) → N16) (fun c0 c1 c2 c3 c4 c5 c6 c7 c8 c9 c10 c11 c12 c13 c14 c15 g => ⟨c0, c1, c2, c3, c4, c5, c6, c7, c8, c9, g c10, c11, c12, c13, c14, c15⟩) s g
noncomputable def lw11 (v : AV) (s : L16) : L16 := @L16.rec (fun _ => AV → L16) (fun c0 c1 c2 c3 c4 c5 c6 c7 c8 c9 c10 c11 c12 c13 c14 c15 v => ⟨c0, c1, c2, c3, c4, c5, c6, c7, c8, c9, c10, v, c12, c13, c14, c15⟩) s v
noncomputable def nw11 (g : L16 → L16) (s : N16) : N16 := @N16.rec (fun _ => (L16 → L16) → N16) (fun c0 c1 c2 c3 c4 c5 c6 c7 c8 c9 c10 c11 c12 c13 c14 c15 g => ⟨c0, c1, c2, c3, c4, c5, c6, c7, c8, c9, c10, g c11, c12, c13, c14, c15⟩) s g
noncomputable def lw12 (v : AV) (s : L16) : L16 := @L16.rec (fun _ => AV → L16) (fun c0 c1 c2 c3 c4 c5 c6 c7 c8 c9 c10 c11 c12 c13 c14 c15 v => ⟨c0, c1, c2, c3, c4, c5, c6, c7, c8, c9, c10, c11, v, c13, c14, c15⟩) s v
noncomputable def nw12 (g : L16 → L16) (s : N16) : N16 := @N16.rec (fun _ => (L16 → L16) → N16) (fun c0 c1 c2 c3 c4 c5 c6 c7 c8 c9 c10 c11 c12 c13 c14 c15 g => ⟨c0, c1, c2, c3, c4, c5, c6, c7, c8, c9, c10, c11, g c12, c13, c14, c15⟩) s g
noncomputable def lw13 (v : AV) (s : L16) : L16 := @L16.rec (fun _ => AV → L16) (fun c0 c1 c2 c3 c4 c5 c6 c7 c8 c9 c10 c11 c12 c13 c14 c15 v => ⟨c0, c1, c2, c3, c4, c5, c6, c7, c8, c9, c10, c11, c12, v, c14, c15⟩) s v
noncomputable def nw13 (g : L16 → L16) (s : N16) : N16 := @N16.rec (fun _ => (L16 → L16) → N16) (fun c0 c1 c2 c3 c4 c5 c6 c7 c8 c9 c10 c11 c12 c13 c14 c15 g => ⟨c0, c1, c2, c3, c4, c5, c6, c7, c8, c9, c10, c11, c12, g c13, c14, c15⟩) s g
noncomputable def lw14 (v : AV) (s : L16) : L16 := @L16.rec (fun _ => AV → L16) (fun c0 c1 c2 c3 c4 c5 c6 c7 c8 c9 c10 c11 c12 c13 c14 c15 v => ⟨c0, c1, c2, c3, c4, c5, c6, c7, c8, c9, c10, c11, c12, c13, v, c15⟩) s v
noncomputable def nw14 (g : L16 → L16) (s : N16) : N16 := @N16.rec (fun _ => (L16 → L16) → N16) (fun c0 c1 c2 c3 c4 c5 c6 c7 c8 c9 c10 c11 c12 c13 c14 c15 g => ⟨c0, c1, c2, c3, c4, c5, c6, c7, c8, c9, c10, c11, c12, c13, g c14, c15⟩) s g
noncomputable def lw15 (v : AV) (s : L16) : L16 := @L16.rec (fun _ => AV → L16) (fun c0 c1 c2 c3 c4 c5 c6 c7 c8 c9 c10 c11 c12 c13 c14 c15 v => ⟨c0, c1, c2, c3, c4, c5, c6, c7, c8, c9, c10, c11, c12, c13, c14, v⟩) s v
noncomputable def nw15 (g : L16 → L16) (s : N16) : N16 := @N16.rec (fun _ => (L16 → L16) → N16) (fun c0 c1 c2 c3 c4 c5 c6 c7 c8 c9 c10 c11 c12 c13 c14 c15 g => ⟨c0, c1, c2, c3, c4, c5, c6, c7, c8, c9, c10, c11, c12, c13, c14, g c15⟩) s g
noncomputable def lbN (n : Nat) : LB := (@Nat.rec (fun _ => LB) ⟨L16.c0⟩ (fun n _ => (@Nat.rec (fun _ => LB) ⟨L16.c1⟩ (fun n _ => (@Nat.rec (fun _ => LB) ⟨L16.c2⟩ (fun n _ => (@Nat.rec (fun _ => LB) ⟨L16.c3⟩ (fun n _ => (@Nat.rec (fun _ => LB) ⟨L16.c4⟩ (fun n _ => (@Nat.rec (fun _ => LB) ⟨L16.c5⟩ (fun n _ => (@Nat.rec (fun _ => LB) ⟨L16.c6⟩ (fun n _ => (@Nat.rec (fun _ => LB) ⟨L16.c7⟩ (fun n _ => (@Nat.rec (fun _ => LB) ⟨L16.c8⟩ (fun n _ => (@Nat.rec (fun _ => LB) ⟨L16.c9⟩ (fun n _ => (@Nat.rec (fun _ => LB) ⟨L16.c10⟩ (fun n _ => (@Nat.rec (fun _ => LB) ⟨L16.c11⟩ (fun n _ => (@Nat.rec (fun _ => LB) ⟨L16.c12⟩ (fun n _ => (@Nat.rec (fun _ => LB) ⟨L16.c13⟩ (fun n _ => (@Nat.rec (fun _ => LB) ⟨L16.c14⟩ (fun n _ => ⟨L16.c15⟩) n)) n)) n)) n)) n)) n)) n)) n)) n)) n)) n)) n)) n)) n)) n)
noncomputable def nbN (n : Nat) : NB := (@Nat.rec (fun _ => NB) ⟨N16.c0⟩ (fun n _ => (@Nat.rec (fun _ => NB) ⟨N16.c1⟩ (fun n _ => (@Nat.rec (fun _ => NB) ⟨N16.c2⟩ (fun n _ => (@Nat.rec (fun _ => NB) ⟨N16.c3⟩ (fun n _ => (@Nat.rec (fun _ => NB) ⟨N16.c4⟩ (fun n _ => (@Nat.rec (fun _ => NB) ⟨N16.c5⟩ (fun n _ => (@Nat.rec (fun _ => NB) ⟨N16.c6⟩ (fun n _ => (@Nat.rec (fun _ => NB) ⟨N16.c7⟩ (fun n _ => (@Nat.rec (fun _ => NB) ⟨N16.c8⟩ (fun n _ => (@Nat.rec (fun _ => NB) ⟨N16.c9⟩ (fun n _ => (@Nat.rec (fun _ => NB) ⟨N16.c10⟩ (fun n _ => (@Nat.rec (fun _ => NB) ⟨N16.c11⟩ (fun n _ => (@Nat.rec (fun _ => NB) ⟨N16.c12⟩ (fun n _ => (@Nat.rec (fun _ => NB) ⟨N16.c13⟩ (fun n _ => (@Nat.rec (fun _ => NB) ⟨N16.c14⟩ (fun n _ => ⟨N16.c15⟩) n)) n)) n)) n)) n)) n)) n)) n)) n)) n)) n)) n)) n)) n)) n)
noncomputable def lwN (n : Nat) : LW := (@Nat.rec (fun _ => LW) ⟨lw0⟩ (fun n _ => (@Nat.rec (fun _ => LW) ⟨lw1⟩ (fun n _ => (@Nat.rec (fun _ => LW) ⟨lw2⟩ (fun n _ => (@Nat.rec (fun _ => LW) ⟨lw3⟩ (fun n _ => (@Nat.rec (fun _ => LW) ⟨lw4⟩ (fun n _ => (@Nat.rec (fun _ => LW) ⟨lw5⟩ (fun n _ => (@Nat.rec (fun _ => LW) ⟨lw6⟩ (fun n _ => (@Nat.rec (fun _ => LW) ⟨lw7⟩ (fun n _ => (@Nat.rec (fun _ => LW) ⟨lw8⟩ (fun n _ => (@Nat.rec (fun _ => LW) ⟨lw9⟩ (fun n _ => (@Nat.rec (fun _ => LW) ⟨lw10⟩ (fun n _ => (@Nat.rec (fun _ => LW) ⟨lw11⟩ (fun n _ => (@Nat.rec (fun _ => LW) ⟨lw12⟩ (fun n _ => (@Nat.rec (fun _ => LW) ⟨lw13⟩ (fun n _ => (@Nat.rec (fun _ => LW) ⟨lw14⟩ (fun n _ => ⟨lw15⟩) n)) n)) n)) n)) n)) n)) n)) n)) n)) n)) n)) n)) n)) n)) n)
noncomputable def nwN (n : Nat) : NW := (@Nat.rec (fun _ => NW) ⟨nw0⟩ (fun n _ => (@Nat.rec (fun _ => NW) ⟨nw1⟩ (fun n _ => (@Nat.rec (fun _ => NW) ⟨nw2⟩ (fun n _ => (@Nat.rec (fun _ => NW) ⟨nw3⟩ (fun n _ => (@Nat.rec (fun _ => NW) ⟨nw4⟩ (fun n _ => (@Nat.rec (fun _ => NW) ⟨nw5⟩ (fun n _ => (@Nat.rec (fun _ => NW) ⟨nw6⟩ (fun n _ => (@Nat.rec (fun _ => NW) ⟨nw7⟩ (fun n _ => (@Nat.rec (fun _ => NW) ⟨nw8⟩ (fun n _ => (@Nat.rec (fun _ => NW) ⟨nw9⟩ (fun n _ => (@Nat.rec (fun _ => NW) ⟨nw10⟩ (fun n _ => (@Nat.rec (fun _ => NW) ⟨nw11⟩ (fun n _ => (@Nat.rec (fun _ => NW) ⟨nw12⟩ (fun n _ => (@Nat.rec (fun _ => NW) ⟨nw13⟩ (fun n _ => (@Nat.rec (fun _ => NW) ⟨nw14⟩ (fun n _ => ⟨nw15⟩) n)) n)) n)) n)) n)) n)) n)) n)) n)) n)) n)) n)) n)) n)) n)
noncomputable def rdN (i : Nat) : RB := @LB.rec (fun _ => NB → RB) (fun f b => @NB.rec (fun _ => (L16 → AV) → RB) (fun g f => ⟨fun E => f (g E)⟩) b f) (lbN (Nat.mod i 16)) (nbN (Nat.div i 16))
noncomputable def wrN (i : Nat) : WB := @LW.rec (fun _ => NW → WB) (fun f b => @NW.rec (fun _ => (AV → L16 → L16) → WB) (fun g f => ⟨fun v E => g (f v) E⟩) b f) (lwN (Nat.mod i 16)) (nwN (Nat.div i 16))
structure HG where
  f : Tr FB → Option FB
structure HP where
  f : FB → Tr FB → Tr FB
noncomputable def hg0 (f : Tr FB → Option FB) : HG := ⟨fun t => f (gB0 t)⟩
noncomputable def hp0 (f : FB → Tr FB → Tr FB) : HP := ⟨fun v t => pB0 (f v) t⟩
noncomputable def hg1 (f : Tr FB → Option FB) : HG := ⟨fun t => f (gB1 t)⟩
noncomputable def hp1 (f : FB → Tr FB → Tr FB) : HP := ⟨fun v t => pB1 (f v) t⟩
noncomputable def hg2 (f : Tr FB → Option FB) : HG := ⟨fun t => f (gB2 t)⟩
noncomputable def hp2 (f : FB → Tr FB → Tr FB) : HP := ⟨fun v t => pB2 (f v) t⟩
noncomputable def hg3 (f : Tr FB → Option FB) : HG := ⟨fun t => f (gB3 t)⟩
noncomputable def hp3 (f : FB → Tr FB → Tr FB) : HP := ⟨fun v t => pB3 (f v) t⟩
noncomputable def hg4 (f : Tr FB → Option FB) : HG := ⟨fun t => f (gB4 t)⟩
noncomputable def hp4 (f : FB → Tr FB → Tr FB) : HP := ⟨fun v t => pB4 (f v) t⟩
noncomputable def hg5 (f : Tr FB → Option FB) : HG := ⟨fun t => f (gB5 t)⟩
noncomputable def hp5 (f : FB → Tr FB → Tr FB) : HP := ⟨fun v t => pB5 (f v) t⟩
noncomputable def hg6 (f : Tr FB → Option FB) : HG := ⟨fun t => f (gB6 t)⟩
noncomputable def hp6 (f : FB → Tr FB → Tr FB) : HP := ⟨fun v t => pB6 (f v) t⟩
noncomputable def hg7 (f : Tr FB → Option FB) : HG := ⟨fun t => f (gB7 t)⟩
noncomputable def hp7 (f : FB → Tr FB → Tr FB) : HP := ⟨fun v t => pB7 (f v) t⟩
noncomputable def hput0 (v : FB) (t : Tr FB) : Tr FB := @Tr.rec FB (fun _ => FB → Tr FB) (fun v => .nd (some v) .nil .nil .nil .nil .nil .nil .nil .nil) (fun _ c0 c1 c2 c3 c4 c5 c6 c7 _ _ _ _ _ _ _ _ v => .nd (some v) c0 c1 c2 c3 c4 c5 c6 c7) t v
noncomputable def hgS (d : D8) (r : HG) : HG := @HG.rec (fun _ => D8 → HG) (fun f d => @D8.rec (fun _ => (Tr FB → Option FB) → HG) hg0 hg1 hg2 hg3 hg4 hg5 hg6 hg7 d f) r d
noncomputable def hpS (d : D8) (r : HP) : HP := @HP.rec (fun _ => D8 → HP) (fun f d => @D8.rec (fun _ => (FB → Tr FB → Tr FB) → HP) hp0 hp1 hp2 hp3 hp4 hp5 hp6 hp7 d f) r d
noncomputable def d8 (n : Nat) : D8 :=
  @Nat.rec (fun _ => D8) .d0 (fun n _ => @Nat.rec (fun _ => D8) .d1 (fun n _ => @Nat.rec (fun _ => D8) .d2 (fun n _ => @Nat.rec (fun _ => D8) .d3 (fun n _ => @Nat.rec (fun _ => D8) .d4 (fun n _ => @Nat.rec (fun _ => D8) .d5 (fun n _ => @Nat.rec (fun _ => D8) .d6 (fun _ _ => .d7) n) n) n) n) n) n) n
noncomputable def hgC (m : Nat) (ih : Nat → HG) : HG := hgS (d8 (Nat.mod m 8)) (ih (Nat.div m 8))
noncomputable def hpC (m : Nat) (ih : Nat → HP) : HP := hpS (d8 (Nat.mod m 8)) (ih (Nat.div m 8))
noncomputable def hgF (k : Nat) : Nat → HG := @Nat.rec (fun _ => Nat → HG) (fun _ => ⟨topB⟩) (fun _ ih n => @Nat.rec (fun _ => (Nat → HG) → HG) (fun _ => ⟨topB⟩) (fun m _ ih => hgC m ih) n ih) k
noncomputable def hpF (k : Nat) : Nat → HP := @Nat.rec (fun _ => Nat → HP) (fun _ => ⟨hput0⟩) (fun _ ih n => @Nat.rec (fun _ => (Nat → HP) → HP) (fun _ => ⟨hput0⟩) (fun m _ ih => hpC m ih) n ih) k
noncomputable def hgN (n : Nat) : HG := hgF n n
noncomputable def hpN (n : Nat) : HP := hpF n n
/-- What an oracle said: which operation, of what, and what it said. -/
inductive Nt where
  | bin (op : BinOp) (x y t : AV)
  | un (op : UnOp) (x t : AV)
  | conv (c : Cv) (x t : AV)
  | s2b (x t : AV)
  | eqv (neg : Bool) (q : EqK) (x y t : AV)
  | lens (x t : AV)
  | len (x t : AV)
  | mn (xs : List AV) (t : AV)
  | mx (xs : List AV) (t : AV)
  | ixs (x i t : AV)
  | sls (x : AV) (lo hi : Option AV) (t : AV)
  | slc (size : Nat) (x : AV) (lo hi : Option AV) (t : AV)
  | ixa (size : Nat) (x i t : AV)
  | load (n : Option Nat) (x t : AV)
  | app (size bytes : Nat) (x y t : AV)
  | call (f : Nat) (args : List AV) (t : AV)
structure LG where
  notes : List Nt
  orc : List AV
/-- Memory: each block with the time of its last turn; what was taken for granted. -/
structure FS where
  h : Tr FB
  nx : Nat
  ck : Nat
  log : LG
abbrev FE := N16
inductive FR where
  | bad
  | ok (v : AV) (S : FS) (n : Nat)
inductive FO where
  | bad
  | nrm (E : FE) (S : FS)
  | exit (i : Nat) (E : FE) (S : FS)
  | ret (E : FE) (S : FS)
noncomputable def atC (h : Tr FB) (b : Nat) : Option FB := (hgN b).f h
noncomputable def FS.at (S : FS) (b : Nat) : Option FB := @FS.rec (fun _ => Nat → Option FB) (fun h _ _ _ b => atC h b) S b
noncomputable def updC (c : Nat) (h : Tr FB) (nx : Nat) (log : LG) (b : Nat) (o : Obj) : FS := ⟨(hpN b).f ⟨o, c⟩ h, nx, Nat.succ c, log⟩
noncomputable def updM (h : Tr FB) (nx ck : Nat) (log : LG) (b : Nat) (o : Obj) : FS := @Nat.rec (fun _ => Tr FB → Nat → LG → Nat → Obj → FS) (updC 0) (fun m _ => updC (Nat.succ m)) ck h nx log b o
noncomputable def FS.upd (S : FS) (b : Nat) (o : Obj) : FS := @FS.rec (fun _ => Nat → Obj → FS) updM S b o
noncomputable def new2 {β : Type} (c n : Nat) (h : Tr FB) (log : LG) (o : Obj) (f : Nat → FS → β) : β := f n ⟨(hpN n).f ⟨o, c⟩ h, Nat.succ n, Nat.succ c, log⟩
noncomputable def FS.newR (S : FS) (o : Obj) (f : Nat → FS → FR) : FR := @FS.rec (fun _ => Obj → (Nat → FS → FR) → FR)
  (fun h nx ck log o f => @Nat.rec (fun _ => Nat → Tr FB → LG → Obj → (Nat → FS → FR) → FR)
    (fun ck => @Nat.rec (fun _ => Tr FB → LG → Obj → (Nat → FS → FR) → FR) (new2 0 0) (fun m _ => new2 (Nat.succ m) 0) ck)
    (fun n _ ck => @Nat.rec (fun _ => Nat → Tr FB → LG → Obj → (Nat → FS → FR) → FR) (fun n => new2 0 n) (fun m _ n => new2 (Nat.succ m) n) ck (Nat.succ n)) nx ck h log o f) S o f
noncomputable def FS.newO (S : FS) (o : Obj) (f : Nat → FS → FO) : FO := @FS.rec (fun _ => Obj → (Nat → FS → FO) → FO)
  (fun h nx ck log o f => @Nat.rec (fun _ => Nat → Tr FB → LG → Obj → (Nat → FS → FO) → FO)
    (fun ck => @Nat.rec (fun _ => Tr FB → LG → Obj → (Nat → FS → FO) → FO) (new2 0 0) (fun m _ => new2 (Nat.succ m) 0) ck)
    (fun n _ ck => @Nat.rec (fun _ => Nat → Tr FB → LG → Obj → (Nat → FS → FO) → FO) (fun n => new2 0 n) (fun m _ n => new2 (Nat.succ m) n) ck (Nat.succ n)) nx ck h log o f) S o f
noncomputable def FE.at (E : FE) (i : Nat) : AV := @Bool.rec (fun _ => AV) .undef ((rdN i).f E) (Nat.ble (Nat.succ i) 256)
structure XB where
  f : FE → AV
noncomputable def xB (gl : Nat → AV) (x : Opd) : XB := @Opd.rec (fun _ => (Nat → AV) → XB) (fun i _ => @Bool.rec (fun _ => XB) ⟨fun _ => .undef⟩ (@RB.rec (fun _ => XB) (fun f => ⟨f⟩) (rdN i)) (Nat.ble (Nat.succ i) 256)) (fun v _ => ⟨fun _ => v⟩) (fun i gl => ⟨fun _ => gl i⟩) x gl
noncomputable def fo (gl : Nat → AV) (E : FE) (x : Opd) : AV := (xB gl x).f E
noncomputable def pf (q : Option AV) (S : FS) : FR := @Option.rec AV (fun _ => FS → FR) (fun _ => .bad) (fun v S => .ok v S 0) q S
noncomputable def pfl (q : Option AV) (S : FS) : FR := @Option.rec AV (fun _ => FS → FR) (fun _ => .bad) (fun v S => .ok v S 1) q S
abbrev FCall := Nat → List AV → FS → FR
abbrev FOp := (Opd → AV) → FCall → FS → FR
/-- Reading a block. -/
noncomputable def cellsK (S : FS) (b : Nat) (f : Nat → List AV → FR) : FR :=
  @Option.rec FB (fun _ => (Nat → List AV → FR) → FR) (fun _ => .bad) (fun x f => @FB.rec (fun _ => (Nat → List AV → FR) → FR) (fun o _ f => @Obj.rec (fun _ => (Nat → List AV → FR) → FR) (fun z cs f => f z cs) (fun _ _ _ => .bad) (fun _ _ _ => .bad) (fun _ => .bad) (fun _ _ _ => .bad) o f) x f) (S.at b) f
noncomputable def tickK (S : FS) (b : Nat) (f : Nat → Nat → FR) : FR :=
  @Option.rec FB (fun _ => (Nat → Nat → FR) → FR) (fun _ => .bad) (fun x f => @FB.rec (fun _ => (Nat → Nat → FR) → FR) (fun o _ f => @Obj.rec (fun _ => (Nat → Nat → FR) → FR) (fun _ _ _ => .bad) (fun z v f => f z v) (fun _ _ _ => .bad) (fun _ => .bad) (fun _ _ _ => .bad) o f) x f) (S.at b) f
noncomputable def optK {α : Type} (q : Option α) (f : α → FR) : FR := @Option.rec α (fun _ => (α → FR) → FR) (fun _ => .bad) (fun x f => f x) q f
noncomputable def bK (b : Bool) (x y : FR) : FR := @Bool.rec (fun _ => FR) y x b
/-! Integers. -/
noncomputable def maxQ (k : IntKind) : Nat := @IntKind.rec (fun _ => Nat) 127 32767 2147483647 9223372036854775807 255 65535 4294967295 18446744073709551615 k
noncomputable def wrapQ (k : IntKind) (n : Int) : Int := @Int.rec (fun _ => IntKind → Int) (fun m k => @Bool.rec (fun _ => Int) (k.wrap (.ofNat m)) (Int.ofNat m) (Nat.ble m (maxQ k))) (fun m k => k.wrap (.negSucc m)) n k
noncomputable def kNum (k : IntKind) : Nat := @IntKind.rec (fun _ => Nat) 0 1 2 3 4 5 6 7 k
noncomputable def kEq (k l : IntKind) : Bool := Nat.beq (kNum k) (kNum l)
noncomputable def addQ (a b : Int) : Int := @Int.rec (fun _ => Int → Int) (fun m b => @Int.rec (fun _ => Nat → Int) (fun n m => Int.ofNat (Nat.add m n)) (fun n m => .ofNat m + .negSucc n) b m) (fun m b => .negSucc m + b) a b
noncomputable def subQ (a b : Int) : Int := @Int.rec (fun _ => Int → Int) (fun m b => @Int.rec (fun _ => Nat → Int) (fun n m => @Bool.rec (fun _ => Int) (.ofNat m - .ofNat n) (Int.ofNat (Nat.sub m n)) (Nat.ble n m)) (fun n m => .ofNat m - .negSucc n) b m) (fun m b => .negSucc m - b) a b
noncomputable def eqQ (a b : Int) : Bool := @Int.rec (fun _ => Int → Bool) (fun m b => @Int.rec (fun _ => Nat → Bool) (fun n m => Nat.beq m n) (fun _ _ => false) b m) (fun m b => @Int.rec (fun _ => Nat → Bool) (fun _ _ => false) (fun n m => Nat.beq m n) b m) a b
noncomputable def ltQ (a b : Int) : Bool := @Int.rec (fun _ => Int → Bool) (fun m b => @Int.rec (fun _ => Nat → Bool) (fun n m => Nat.ble (Nat.succ m) n) (fun _ _ => false) b m) (fun m b => @Int.rec (fun _ => Nat → Bool) (fun _ _ => true) (fun n m => Nat.ble (Nat.succ n) m) b m) a b
noncomputable def leQ (a b : Int) : Bool := @Int.rec (fun _ => Int → Bool) (fun m b => @Int.rec (fun _ => Nat → Bool) (fun n m => Nat.ble m n) (fun _ _ => false) b m) (fun m b => @Int.rec (fun _ => Nat → Bool) (fun _ _ => true) (fun n m => Nat.ble n m) b m) a b
noncomputable def kBits (k : IntKind) : Nat := @IntKind.rec (fun _ => Nat) 8 16 32 64 8 16 32 64 k
noncomputable def shrQ (k : IntKind) (a b : Int) : Option AV := @Int.rec (fun _ => Int → IntKind → Option AV) (fun m b k => @Int.rec (fun _ => Nat → IntKind → Option AV) (fun n m k => @Bool.rec (fun _ => Option AV) (shI .shr k (.ofNat m) (.ofNat n)) (some (.int k (Int.ofNat (Nat.div m (Nat.pow 2 n))))) (Nat.ble n (kBits k))) (fun n m k => shI .shr k (.ofNat m) (.negSucc n)) b m k) (fun m b k => shI .shr k (.negSucc m) b) a b k
noncomputable def bitQ (f : Nat → Nat → Nat) (op : BinOp) (k : IntKind) (a b : Int) : Option AV := @Int.rec (fun _ => Int → (Nat → Nat → Nat) → BinOp → IntKind → Option AV) (fun m b f op k => @Int.rec (fun _ => Nat → (Nat → Nat → Nat) → BinOp → IntKind → Option AV) (fun n m f op k => @Bool.rec (fun _ => Option AV) (binI op k (.ofNat m) (.ofNat n)) (@Bool.rec (fun _ => Option AV) (binI op k (.ofNat m) (.ofNat n)) (some (.int k (Int.ofNat (f m n)))) (Nat.ble n (maxQ k))) (Nat.ble m (maxQ k))) (fun n m f op k => binI op k (.ofNat m) (.negSucc n)) b m f op k) (fun m b f op k => binI op k (.negSucc m) b) a b f op k
noncomputable def remQ (k : IntKind) (a b : Int) : Option AV := @Int.rec (fun _ => Int → IntKind → Option AV) (fun m b k => @Int.rec (fun _ => Nat → IntKind → Option AV) (fun n m k => @Nat.rec (fun _ => Nat → IntKind → Option AV) (fun _ _ => none) (fun n _ m k => some (.int k (Int.ofNat (Nat.mod m (Nat.succ n))))) n m k) (fun n m k => binI .rem k (.ofNat m) (.negSucc n)) b m k) (fun m b k => binI .rem k (.negSucc m) b) a b k
noncomputable def binQ (op : BinOp) : IntKind → Int → Int → Option AV := @BinOp.rec (fun _ => IntKind → Int → Int → Option AV)
  (fun k a b => some (.int k (wrapQ k (addQ a b)))) (fun k a b => some (.int k (wrapQ k (subQ a b)))) (fun k a b => binI .mul k a b) (fun k a b => binI .quo k a b) remQ
  (bitQ Nat.land .and) (bitQ Nat.lor .or) (bitQ Nat.xor .xor) (fun _ _ _ => none) (fun _ _ _ => none) (fun k a b => binI .andNot k a b)
  (fun _ a b => some (.bool (eqQ a b))) (fun _ a b => some (.bool (!eqQ a b))) (fun _ a b => some (.bool (ltQ a b))) (fun _ a b => some (.bool (leQ a b))) (fun _ a b => some (.bool (ltQ b a))) (fun _ a b => some (.bool (leQ b a))) op
noncomputable def binL (op : BinOp) (k l : IntKind) (a b : Int) (S : FS) : FR := @Bool.rec (fun _ => BinOp → IntKind → IntKind → Int → Int → FS → FR) (fun _ _ _ _ _ _ => .bad) (fun op k _ a b S => pf (binQ op k a b) S) (kEq k l) op k l a b S
noncomputable def binK (op : BinOp) : IntKind → IntKind → Int → Int → FS → FR := @BinOp.rec (fun _ => IntKind → IntKind → Int → Int → FS → FR)
  (binL .add) (binL .sub) (binL .mul) (binL .quo) (binL .rem) (binL .and) (binL .or) (binL .xor) (fun k _ a b S => pf (shI .shl k a b) S) (fun k _ a b S => pf (shrQ k a b) S) (binL .andNot) (binL .eql) (binL .neq) (binL .lss) (binL .leq) (binL .gtr) (binL .geq) op
noncomputable def nthQ (l : List AV) : Nat → Option AV := @List.rec AV (fun _ => Nat → Option AV) (fun _ => none) (fun a _ ih i => @Nat.rec (fun _ => AV → (Nat → Option AV) → Option AV) (fun a _ => some a) (fun j _ _ ih => ih j) i a ih) l
noncomputable def cutQ (cs : List AV) (off : Nat) (n : Option Nat) : Option AV := @Option.rec Nat (fun _ => List AV → Nat → Option AV) nthQ (fun n cs off => cut cs off (some n)) n cs off
/-! Lists by places. -/
structure NQ where
  f : List AV → Option AV
structure DQ where
  f : List AV → (List AV → FR) → FR
noncomputable def nthN (q : Nat) : NQ := @Nat.rec (fun _ => NQ) ⟨fun l => @List.rec AV (fun _ => Option AV) none (fun a _ _ => some a) l⟩ (fun _ ih => @NQ.rec (fun _ => NQ) (fun f => ⟨fun l => @List.rec AV (fun _ => (List AV → Option AV) → Option AV) (fun _ => none) (fun _ t _ f => f t) l f⟩) ih) q
noncomputable def dropN (q : Nat) : DQ := @Nat.rec (fun _ => DQ) ⟨fun l k => k l⟩ (fun _ ih => @DQ.rec (fun _ => DQ) (fun f => ⟨fun l k => @List.rec AV (fun _ => (List AV → (List AV → FR) → FR) → (List AV → FR) → FR) (fun _ _ => .bad) (fun _ t _ f k => f t k) l f k⟩) ih) q
noncomputable def takeN (q : Nat) : DQ := @Nat.rec (fun _ => DQ) ⟨fun _ k => k []⟩ (fun _ ih => @DQ.rec (fun _ => DQ) (fun f => ⟨fun l k => @List.rec AV (fun _ => (List AV → (List AV → FR) → FR) → (List AV → FR) → FR) (fun _ _ => .bad) (fun a t _ f k => f t fun r => k (a :: r)) l f k⟩) ih) q
/-- These in place of the first ones. -/
noncomputable def ovl (vs : List AV) : List AV → (List AV → FR) → FR := @List.rec AV (fun _ => List AV → (List AV → FR) → FR) (fun l k => k l) (fun v _ ih l k => @List.rec AV (fun _ => AV → (List AV → (List AV → FR) → FR) → (List AV → FR) → FR) (fun _ _ _ => .bad) (fun _ t _ v ih k => ih t fun r => k (v :: r)) l v ih k) vs
noncomputable def ovlN (q : Nat) (vs : List AV) : List AV → (List AV → FR) → FR := @Nat.rec (fun _ => List AV → List AV → (List AV → FR) → FR) ovl (fun _ ih vs l k => @List.rec AV (fun _ => (List AV → List AV → (List AV → FR) → FR) → List AV → (List AV → FR) → FR) (fun _ _ _ => .bad) (fun a t _ ih vs k => ih vs t fun r => k (a :: r)) l ih vs k) q vs
noncomputable def lenQ (l : List AV) : Nat := @List.rec AV (fun _ => Nat) 0 (fun _ _ n => Nat.succ n) l
/-! Operations. -/
noncomputable def eqvB (neg : Bool) (q : EqK) (x y : AV) (S : FS) : FR := optK (eqAV q x y) fun b => .ok (.bool (if neg then !b else b)) S 0
noncomputable def notQ (neg b : Bool) : Bool := @Bool.rec (fun _ => Bool → Bool) (fun b => b) (fun b => @Bool.rec (fun _ => Bool) true false b) neg b
noncomputable def isP (neg : Bool) (x y : AV) (S : FS) : FR := @AV.rec (fun _ => Bool → AV → FS → FR) (fun _ => PUnit) (fun neg y S => .bad) (fun _ neg y S => .bad) (fun _ _ neg y S => .bad) (fun _ neg y S => .bad) (fun neg y S => (@AV.rec (fun _ => Bool → FS → FR) (fun _ => PUnit) (fun neg S => .bad) (fun _ neg S => .bad) (fun _ _ neg S => .bad) (fun _ neg S => .bad) (fun neg S => .ok (.bool (notQ neg true)) S 0) (fun _ _ neg S => .ok (.bool (notQ neg false)) S 0) (fun _ _ neg S => .bad) (fun neg S => .bad) (fun _ _ _ _ neg S => .bad) (fun _ _ _ _ neg S => .bad) (fun neg S => .bad) (fun _ _ _ neg S => .bad) (fun _ _ neg S => .bad) (fun _ _ neg S => .bad) (fun _ _ _ neg S => .bad) PUnit.unit (fun _ _ _ _ => PUnit.unit)) y neg S) (fun _ _ neg y S => (@AV.rec (fun _ => Bool → FS → FR) (fun _ => PUnit) (fun neg S => .bad) (fun _ neg S => .bad) (fun _ _ neg S => .bad) (fun _ neg S => .bad) (fun neg S => .ok (.bool (notQ neg false)) S 0) (fun _ _ neg S => .bad) (fun _ _ neg S => .bad) (fun neg S => .bad) (fun _ _ _ _ neg S => .bad) (fun _ _ _ _ neg S => .bad) (fun neg S => .bad) (fun _ _ _ neg S => .bad) (fun _ _ neg S => .bad) (fun _ _ neg S => .bad) (fun _ _ _ neg S => .bad) PUnit.unit (fun _ _ _ _ => PUnit.unit)) y neg S) (fun _ _ neg y S => .bad) (fun neg y S => .bad) (fun _ _ _ _ neg y S => .bad) (fun _ _ _ _ neg y S => .bad) (fun neg y S => .bad) (fun _ _ _ neg y S => .bad) (fun _ _ neg y S => .bad) (fun _ _ neg y S => .bad) (fun _ _ _ neg y S => .bad) PUnit.unit (fun _ _ _ _ => PUnit.unit) x neg y S
noncomputable def isS (neg : Bool) (x y : AV) (S : FS) : FR := @AV.rec (fun _ => Bool → AV → FS → FR) (fun _ => PUnit) (fun neg y S => .bad) (fun _ neg y S => .bad) (fun _ _ neg y S => .bad) (fun _ neg y S => .bad) (fun neg y S => .bad) (fun _ _ neg y S => .bad) (fun _ _ neg y S => .bad) (fun neg y S => (@AV.rec (fun _ => Bool → FS → FR) (fun _ => PUnit) (fun neg S => .bad) (fun _ neg S => .bad) (fun _ _ neg S => .bad) (fun _ neg S => .bad) (fun neg S => .bad) (fun _ _ neg S => .bad) (fun _ _ neg S => .bad) (fun neg S => .ok (.bool (notQ neg true)) S 0) (fun _ _ _ _ neg S => .ok (.bool (notQ neg false)) S 0) (fun _ _ _ _ neg S => .ok (.bool (notQ neg false)) S 0) (fun neg S => .bad) (fun _ _ _ neg S => .bad) (fun _ _ neg S => .bad) (fun _ _ neg S => .bad) (fun _ _ _ neg S => .bad) PUnit.unit (fun _ _ _ _ => PUnit.unit)) y neg S) (fun _ _ _ _ neg y S => (@AV.rec (fun _ => Bool → FS → FR) (fun _ => PUnit) (fun neg S => .bad) (fun _ neg S => .bad) (fun _ _ neg S => .bad) (fun _ neg S => .bad) (fun neg S => .bad) (fun _ _ neg S => .bad) (fun _ _ neg S => .bad) (fun neg S => .ok (.bool (notQ neg false)) S 0) (fun _ _ _ _ neg S => .bad) (fun _ _ _ _ neg S => .bad) (fun neg S => .bad) (fun _ _ _ neg S => .bad) (fun _ _ neg S => .bad) (fun _ _ neg S => .bad) (fun _ _ _ neg S => .bad) PUnit.unit (fun _ _ _ _ => PUnit.unit)) y neg S) (fun _ _ _ _ neg y S => (@AV.rec (fun _ => Bool → FS → FR) (fun _ => PUnit) (fun neg S => .bad) (fun _ neg S => .bad) (fun _ _ neg S => .bad) (fun _ neg S => .bad) (fun neg S => .bad) (fun _ _ neg S => .bad) (fun _ _ neg S => .bad) (fun neg S => .ok (.bool (notQ neg false)) S 0) (fun _ _ _ _ neg S => .bad) (fun _ _ _ _ neg S => .bad) (fun neg S => .bad) (fun _ _ _ neg S => .bad) (fun _ _ neg S => .bad) (fun _ _ neg S => .bad) (fun _ _ _ neg S => .bad) PUnit.unit (fun _ _ _ _ => PUnit.unit)) y neg S) (fun neg y S => .bad) (fun _ _ _ neg y S => .bad) (fun _ _ neg y S => .bad) (fun _ _ neg y S => .bad) (fun _ _ _ neg y S => .bad) PUnit.unit (fun _ _ _ _ => PUnit.unit) x neg y S
noncomputable def k_un (op : UnOp) (x : Opd) : FOp := fun o _ S => pf (unV op (o x)) S
noncomputable def k_mki (t : Nat) (x : Opd) : FOp := fun o _ S => .ok (.iface t (o x)) S 0
noncomputable def k_slc (size : Nat) (x : Opd) (lo hi : Option Opd) : FOp := fun o _ S => pf (slcV size (o x) (lo.map o) (hi.map o)) S
noncomputable def k_sls (x : Opd) (lo hi : Option Opd) : FOp := fun o _ S => pf (slcS (o x) (lo.map o) (hi.map o)) S
noncomputable def k_lens (x : Opd) : FOp := fun o _ S => @AV.rec (fun _ => FS → FR) (fun _ => PUnit) (fun S => .bad) (fun _ S => .bad) (fun _ _ S => .bad) (fun s S => .ok (.int .i64 (Int.ofNat s.length)) S 0) (fun S => .bad) (fun _ _ S => .bad) (fun _ _ S => .bad) (fun S => .bad) (fun _ _ _ _ S => .bad) (fun _ _ _ _ S => .bad) (fun S => .bad) (fun _ _ _ S => .bad) (fun _ _ S => .bad) (fun _ _ S => .bad) (fun _ _ _ S => .bad) PUnit.unit (fun _ _ _ _ => PUnit.unit) (o x) S
noncomputable def idxK (n : Nat) (v : AV) (f : Nat → FR) : FR := @AV.rec (fun _ => Nat → (Nat → FR) → FR) (fun _ => PUnit) (fun n f => .bad) (fun _ n f => .bad) (fun _ i n f => @Int.rec (fun _ => Nat → (Nat → FR) → FR) (fun m n f => @Bool.rec (fun _ => Nat → (Nat → FR) → FR) (fun _ _ => .bad) (fun m f => @Nat.rec (fun _ => (Nat → FR) → FR) (fun f => f 0) (fun j _ f => f (Nat.succ j)) m f) (Nat.ble (Nat.succ m) n) m f) (fun _ _ _ => .bad) i n f) (fun _ n f => .bad) (fun n f => .bad) (fun _ _ n f => .bad) (fun _ _ n f => .bad) (fun n f => .bad) (fun _ _ _ _ n f => .bad) (fun _ _ _ _ n f => .bad) (fun n f => .bad) (fun _ _ _ n f => .bad) (fun _ _ n f => .bad) (fun _ _ n f => .bad) (fun _ _ _ n f => .bad) PUnit.unit (fun _ _ _ _ => PUnit.unit) v n f
noncomputable def k_ixs (x i : Opd) : FOp := fun o _ S => @AV.rec (fun _ => AV → FS → FR) (fun _ => PUnit) (fun i S => .bad) (fun _ i S => .bad) (fun _ _ i S => .bad) (fun s i S => idxK s.length i fun j => optK s[j]? fun b => .ok (.int .u8 (Int.ofNat b.toNat)) S 0) (fun i S => .bad) (fun _ _ i S => .bad) (fun _ _ i S => .bad) (fun i S => .bad) (fun _ _ _ _ i S => .bad) (fun _ _ _ _ i S => .bad) (fun i S => .bad) (fun _ _ _ i S => .bad) (fun _ _ i S => .bad) (fun _ _ i S => .bad) (fun _ _ _ i S => .bad) PUnit.unit (fun _ _ _ _ => PUnit.unit) (o x) (o i) S
noncomputable def k_fld (off : Nat) (n : Option Nat) (x : Opd) : FOp := fun o _ S => @AV.rec (fun _ => Nat → Option Nat → FS → FR) (fun _ => PUnit) (fun off n S => .bad) (fun _ off n S => .bad) (fun _ _ off n S => .bad) (fun _ off n S => .bad) (fun off n S => .bad) (fun _ _ off n S => .bad) (fun _ _ off n S => .bad) (fun off n S => .bad) (fun _ _ _ _ off n S => .bad) (fun _ _ _ _ off n S => .bad) (fun off n S => .bad) (fun _ _ _ off n S => .bad) (fun cs _ off n S => pf (cutQ cs off n) S) (fun _ _ off n S => .bad) (fun _ _ _ off n S => .bad) PUnit.unit (fun _ _ _ _ => PUnit.unit) (o x) off n S
noncomputable def k_ixp (len size : Nat) (x i : Opd) : FOp := fun o _ S => @AV.rec (fun _ => Nat → Nat → AV → FS → FR) (fun _ => PUnit) (fun len size i S => .bad) (fun _ len size i S => .bad) (fun _ _ len size i S => .bad) (fun _ len size i S => .bad) (fun len size i S => .bad) (fun b q len size i S => idxK len i fun j => .ok (.ptr b (q + j * size)) S 0) (fun cs _ len size i S => idxK len i fun j => bK (Nat.ble (j * size) cs.length) (.ok (.rp (cs.drop (j * size))) S 0) .bad) (fun len size i S => .bad) (fun _ _ _ _ len size i S => .bad) (fun _ _ _ _ len size i S => .bad) (fun len size i S => .bad) (fun _ _ _ len size i S => .bad) (fun _ _ len size i S => .bad) (fun _ _ len size i S => .bad) (fun _ _ _ len size i S => .bad) PUnit.unit (fun _ _ _ _ => PUnit.unit) (o x) len size (o i) S
noncomputable def k_ix (len size : Nat) (agg : Bool) (x i : Opd) : FOp := fun o _ S => @AV.rec (fun _ => Nat → Nat → Bool → AV → FS → FR) (fun _ => PUnit) (fun len size agg i S => .bad) (fun _ len size agg i S => .bad) (fun _ _ len size agg i S => .bad) (fun _ len size agg i S => .bad) (fun len size agg i S => .bad) (fun _ _ len size agg i S => .bad) (fun _ _ len size agg i S => .bad) (fun len size agg i S => .bad) (fun _ _ _ _ len size agg i S => .bad) (fun _ _ _ _ len size agg i S => .bad) (fun len size agg i S => .bad) (fun _ _ _ len size agg i S => .bad) (fun cs _ len size agg i S => idxK len i fun j => pf (cut cs (j * size) (if agg then some size else none)) S) (fun _ _ len size agg i S => .bad) (fun _ _ _ len size agg i S => .bad) PUnit.unit (fun _ _ _ _ => PUnit.unit) (o x) len size agg (o i) S
noncomputable def k_tas (t : Nat) (zero : AV) (ok : Bool) (x : Opd) : FOp := fun o _ S => @AV.rec (fun _ => Nat → AV → Bool → FS → FR) (fun _ => PUnit) (fun t zero ok S => .bad) (fun _ t zero ok S => .bad) (fun _ _ t zero ok S => .bad) (fun _ t zero ok S => .bad) (fun t zero ok S => .bad) (fun _ _ t zero ok S => .bad) (fun _ _ t zero ok S => .bad) (fun t zero ok S => .bad) (fun _ _ _ _ t zero ok S => .bad) (fun _ _ _ _ t zero ok S => .bad) (fun t zero ok S => pf (if ok then some (.tup [zero, .bool false]) else none) S) (fun u v _ t zero ok S => pf (if u = t then some (if ok then .tup [v, .bool true] else v) else if ok then some (.tup [zero, .bool false]) else none) S) (fun _ _ t zero ok S => .bad) (fun _ _ t zero ok S => .bad) (fun _ _ _ t zero ok S => .bad) PUnit.unit (fun _ _ _ _ => PUnit.unit) (o x) t zero ok S
noncomputable def cells1 (v : AV) : Option (List AV) := @AV.rec (fun _ => AV → Option (List AV)) (fun _ => PUnit) (fun v => none) (fun _ v => some [v]) (fun _ _ v => some [v]) (fun _ v => some [v]) (fun v => some [v]) (fun _ _ v => some [v]) (fun _ _ v => some [v]) (fun v => some [v]) (fun _ _ _ _ v => some [v]) (fun _ _ _ _ v => some [v]) (fun v => some [v]) (fun _ _ _ v => some [v]) (fun cs _ v => some cs) (fun _ _ v => none) (fun _ _ _ v => some [v]) PUnit.unit (fun _ _ _ _ => PUnit.unit) v v
noncomputable def aggK (S : FS) (n : Nat) (cs : List AV) : FR := .ok (.agg cs) S n
noncomputable def k_mn (args : List Opd) : FOp := fun o _ S => match args.map o with
  | [] => .bad
  | x :: xs => bK (isNum x) (pf (foldV mnV x xs) S) .bad
noncomputable def k_mx (args : List Opd) : FOp := fun o _ S => match args.map o with
  | [] => .bad
  | x :: xs => bK (isNum x) (pf (foldV mxV x xs) S) .bad
noncomputable def fillK (parts : List (Nat × Nat × Opd)) : (Opd → AV) → List AV → (List AV → FR) → FR := @List.rec (Nat × Nat × Opd) (fun _ => (Opd → AV) → List AV → (List AV → FR) → FR) (fun _ cs k => k cs)
  (fun p _ ih o cs k => optK (cells1 (o p.2.2)) fun vs => bK (Nat.beq (lenQ vs) p.2.1) (ovlN p.1 vs cs fun cs' => ih o cs' k) .bad) parts
noncomputable def k_build (zs : List AV) (parts : List (Nat × Nat × Opd)) : FOp := fun o _ S => fillK parts o zs (aggK S 0)
noncomputable def k_mkc (f : Nat) (cs : List Opd) : FOp := fun o _ S => .ok (.clo f (cs.map o)) S 0
noncomputable def c_b2s (v : AV) (S : FS) : FR := match v with
  | .hs _ b q n => cellsK S b fun z cs => bK (Nat.beq z 1 && Nat.ble (q + n) cs.length) (pfl ((toBytes ((cs.drop q).take n)).map .str) S) .bad
  | v => pf (convP .b2s v) S
noncomputable def c_s2b (v : AV) (S : FS) : FR := match v with
  | .str b => bK (Nat.ble b.length 140737488355328) (.ok (.sl (bytesAV b) b.length none) S 2) .bad
  | _ => .bad
noncomputable def c_s2h (v : AV) (S : FS) : FR := match v with
  | .str b => bK (Nat.ble b.length 140737488355328) (S.newR (.cells 1 (bytesAV b)) fun m S' => .ok (.hs 1 m 0 b.length) S' 2) .bad
  | _ => .bad
noncomputable def c_mark (v : AV) (S : FS) : FR := match v with
  | .sl cs n (some (t, v, _)) => tickK S t fun _ v' => bK (Nat.beq v v') (.ok (.sl cs n none) (S.upd t .dead) 2) .bad
  | _ => .bad
noncomputable def c_int (k : IntKind) (v : AV) (S : FS) : FR := @AV.rec (fun _ => IntKind → FS → FR) (fun _ => PUnit) (fun k S => .bad) (fun _ k S => .bad) (fun _ n k S => .ok (.int k (wrapQ k n)) S 0) (fun _ k S => .bad) (fun k S => .bad) (fun _ _ k S => .bad) (fun _ _ k S => .bad) (fun k S => .bad) (fun _ _ _ _ k S => .bad) (fun _ _ _ _ k S => .bad) (fun k S => .bad) (fun _ _ _ k S => .bad) (fun _ _ k S => .bad) (fun _ _ k S => .bad) (fun _ _ _ k S => .bad) PUnit.unit (fun _ _ _ _ => PUnit.unit) v k S
noncomputable def k_conv (c : Cv) (x : Opd) : FOp := fun o _ S => @Cv.rec (fun _ => AV → FS → FR) c_int (fun v S => pf (convP .same v) S) (fun v S => pf (convP .itos v) S) c_b2s (fun v S => pf (convP .r2s v) S) c_s2b (fun v S => pf (convP .s2r v) S) c_mark c_s2h c (o x) S
noncomputable def frzK (z : Nat) (cs : List AV) (size b q n : Nat) (S : FS) (f : AV → FS → FR) : FR := bK (Nat.beq z size && Nat.ble (q + n * size) cs.length) (f (.sl ((cs.drop q).take (n * size)) n none) S) .bad
noncomputable def fzH (b q n size : Nat) (S : FS) (f : AV → FS → FR) : FR := @Option.rec FB (fun _ => FR) .bad (fun x => @FB.rec (fun _ => FR) (fun o _ => @Obj.rec (fun _ => FR) (fun z cs => frzK z cs size b q n (S.upd b (.froz z cs)) f) (fun _ _ => .bad) (fun _ _ => .bad) .bad (fun z cs => frzK z cs size b q n S f) o) x) (S.at b)
noncomputable def fzK (size : Nat) (S : FS) (v : AV) (f : AV → FS → FR) : FR := @AV.rec (fun _ => AV → Nat → FS → (AV → FS → FR) → FR) (fun _ => PUnit) (fun v size S f => f v S) (fun _ v size S f => f v S) (fun _ _ v size S f => f v S) (fun _ v size S f => f v S) (fun v size S f => f v S) (fun _ _ v size S f => f v S) (fun _ _ v size S f => f v S) (fun v size S f => f v S) (fun _ _ _ _ v size S f => f v S) (fun _ b q n v size S f => fzH b q n size S f) (fun v size S f => f v S) (fun _ _ _ v size S f => f v S) (fun _ _ v size S f => f v S) (fun _ _ v size S f => f v S) (fun _ _ _ v size S f => f v S) PUnit.unit (fun _ _ _ _ => PUnit.unit) v v size S f
noncomputable def fzo (ih : (Opd → AV) → FS → (List AV → FS → FR) → FR) (o : Opd → AV) (f : List AV → FS → FR) (v : AV) (S : FS) : FR := ih o S fun vs S' => f (v :: vs) S'
noncomputable def fzL (l : List (Nat × Opd)) : (Opd → AV) → FS → (List AV → FS → FR) → FR :=
  @List.rec (Nat × Opd) (fun _ => (Opd → AV) → FS → (List AV → FS → FR) → FR) (fun _ S f => f [] S) (fun p _ ih o S f => @Prod.rec Nat Opd (fun _ => ((Opd → AV) → FS → (List AV → FS → FR) → FR) → (Opd → AV) → FS → (List AV → FS → FR) → FR) (fun n x ih o S f => fzK n S (o x) (fzo ih o f)) p ih o S f) l
noncomputable def loud2 (r : FR) : FR := @FR.rec (fun _ => FR) .bad (fun v S _ => .ok v S 2) r
noncomputable def callC (call : FCall) (f : Nat) (vs : List AV) (S : FS) : FR := loud2 (call f vs S)
noncomputable def k_callv (x : Opd) (args : List (Nat × Opd)) : FOp := fun o call S => match o x with
  | .clo f cs => fzL args o S fun vs S' => loud2 (call f (vs ++ cs) S')
  | _ => .bad
noncomputable def newsK (size : Nat) (S : FS) (v : AV) (f : List AV → Nat → FR) : FR := match v with
  | .nils => f [] 0
  | .sl cs n _ => bK (Nat.beq cs.length (n * size)) (f cs n) .bad
  | .str b => bK (Nat.beq size 1) (f (bytesAV b) b.length) .bad
  | .hs _ b q n => cellsK S b fun z cs => bK (Nat.beq z size && Nat.ble (q + n * size) cs.length) (f ((cs.drop q).take (n * size)) n) .bad
  | _ => .bad
noncomputable def appSK (size bytes : Nat) (S : FS) (x : AV) (news : List AV) (m : Nat) : FR := match x with
  | .nils => bK (Nat.beq m 0) (.ok .nils S 2) (bK (fits m bytes) (S.newR (.tick size 0) fun t S' => .ok (.sl news m (some (t, 0, size))) S' 2) .bad)
  | .sl cs n (some (t, v, _)) => tickK S t fun z v' => bK (Nat.beq z size && (Nat.beq v v' && (Nat.beq cs.length (n * size) && fits (n + m) bytes))) (.ok (.sl (cs ++ news) (n + m) (some (t, v + 1, size))) (S.upd t (.tick size (v + 1))) 2) .bad
  | _ => .bad
noncomputable def appHK (size bytes : Nat) (S : FS) (x : AV) (news : List AV) (m : Nat) : FR := match x with
  | .nils => bK (Nat.beq m 0) .bad (bK (fits m bytes) (S.newR (.cells size news) fun t S' => .ok (.hs size t 0 m) S' 2) .bad)
  | .hs _ b q n => cellsK S b fun z cs => bK (Nat.beq z size && (Nat.beq q 0 && (Nat.beq cs.length (n * size) && fits (n + m) bytes))) ((S.upd b .dead).newR (.cells size (cs ++ news)) fun t S' => .ok (.hs size t 0 (n + m)) S' 2) .bad
  | _ => .bad
noncomputable def k_app (h : Bool) (size bytes : Nat) (x y : Opd) : FOp := fun o _ S =>
  newsK size S (o y) fun news m => bK (h && notSl (o x)) (appHK size bytes S (o x) news m) (appSK size bytes S (o x) news m)
noncomputable def k_bsl (h : Bool) (size len : Nat) (zs : List AV) (parts : List (Nat × Nat × Opd)) : FOp := fun o _ S =>
  fillK parts o zs fun cs => bK h (S.newR (.cells size cs) fun t S' => .ok (.hs size t 0 len) S' 2) (S.newR (.tick size 0) fun t S' => .ok (.sl cs len (some (t, 0, size))) S' 2)
noncomputable def k_bsi (size len : Nat) (zs : List AV) (parts : List (Nat × Nat × Opd)) : FOp := fun o _ S => fillK parts o zs fun cs => .ok (.sl cs len none) S 0
noncomputable def ptrC (t : Nat) (S : FS) : FR := .ok (.ptr t 0) S 2
noncomputable def k_alloc (zs : List AV) : FOp := fun _ _ S => S.newR (.cells 0 zs) ptrC
noncomputable def k_box (x : Opd) : FOp := fun o _ S => optK (cells1 (o x)) fun cs => S.newR (.cells 0 cs) ptrC
noncomputable def k_mks (size bytes : Nat) (zs : List AV) (l c : Opd) : FOp := fun o _ S => match o l, o c with
  | .int .i64 l, .int .i64 c => bK (decide (l = c) && (decide (0 ≤ l) && fits l.toNat bytes)) (S.newR (.cells size ((List.replicate l.toNat zs).flatten)) fun t S' => .ok (.hs size t 0 l.toNat) S' 2) .bad
  | _, _ => .bad
noncomputable def k_cpy (size : Nat) (x y : Opd) : FOp := fun o _ S => match o x with
  | .hs _ b q n => newsK size S (o y) fun news m => cellsK S b fun z cs => bK (Nat.beq z size) (optK (storeL cs q (news.take (min m n * size))) fun cs' => .ok (.int .i64 (min m n : Nat)) (S.upd b (.cells z cs')) 2) .bad
  | _ => .bad
noncomputable def k_rng (x : Opd) : FOp := fun o _ S => match o x with
  | .str b => S.newR (.iter b 0) ptrC
  | _ => .bad
noncomputable def nxtO (b : Nat) (S : FS) (ob : Obj) : FR := match ob with
  | .iter l p => bK (Nat.blt p l.length) (.ok (.tup [.bool true, .int .i64 p, .int .i32 (Utf8.decode ⟨l.toArray⟩ p).1]) (S.upd b (.iter l (p + (Utf8.decode ⟨l.toArray⟩ p).2))) 2) (.ok (.tup [.bool false]) S 2)
  | _ => .bad
noncomputable def k_nxt (x : Opd) : FOp := fun o _ S => match o x with
  | .ptr b 0 => @Option.rec FB (fun _ => FR) .bad (fun y => nxtO b S y.o) (S.at b)
  | _ => .bad

structure OB where
  r : FCall → FE → FS → FR
noncomputable def ob1 (gl : Nat → AV) (g : AV → FS → FR) (x : Opd) : OB := @XB.rec (fun _ => (AV → FS → FR) → OB) (fun fx g => ⟨fun _ E S => g (fx E) S⟩) (xB gl x) g
noncomputable def ob2 (gl : Nat → AV) (g : AV → AV → FS → FR) (x y : Opd) : OB := @XB.rec (fun _ => (AV → AV → FS → FR) → XB → OB) (fun fx g y => @XB.rec (fun _ => (FE → AV) → (AV → AV → FS → FR) → OB) (fun fy fx g => ⟨fun _ E S => g (fx E) (fy E) S⟩) y fx g) (xB gl x) g (xB gl y)
noncomputable def ob3 (gl : Nat → AV) (g : AV → AV → AV → FS → FR) (x y z : Opd) : OB := @XB.rec (fun _ => (AV → AV → AV → FS → FR) → XB → XB → OB) (fun fx g y z => @XB.rec (fun _ => (FE → AV) → (AV → AV → AV → FS → FR) → XB → OB) (fun fy fx g z => @XB.rec (fun _ => (FE → AV) → (FE → AV) → (AV → AV → AV → FS → FR) → OB) (fun fz fx fy g => ⟨fun _ E S => g (fx E) (fy E) (fz E) S⟩) z fx fy g) y fx g z) (xB gl x) g (xB gl y) (xB gl z)
noncomputable def obK (gl : Nat → AV) (g : FOp) : OB := ⟨fun call E S => g (fo gl E) call S⟩
noncomputable def v_pick (c a b : AV) (S : FS) : FR := @AV.rec (fun _ => AV → AV → FS → FR) (fun _ => PUnit) (fun a b S => .bad) (fun c a b S => @Bool.rec (fun _ => FR) (.ok b S 0) (.ok a S 0) c) (fun _ _ a b S => .bad) (fun _ a b S => .bad) (fun a b S => .bad) (fun _ _ a b S => .bad) (fun _ _ a b S => .bad) (fun a b S => .bad) (fun _ _ _ _ a b S => .bad) (fun _ _ _ _ a b S => .bad) (fun a b S => .bad) (fun _ _ _ a b S => .bad) (fun _ _ a b S => .bad) (fun _ _ a b S => .bad) (fun _ _ _ a b S => .bad) PUnit.unit (fun _ _ _ _ => PUnit.unit) c a b S
noncomputable def b_ar (f : Int → Int → Int) (k l : IntKind) (a b : Int) (S : FS) : FR := @Bool.rec (fun _ => FR) .bad (.ok (.int k (wrapQ k (f a b))) S 0) (kEq k l)
noncomputable def b_cm (f : Int → Int → Bool) (k l : IntKind) (a b : Int) (S : FS) : FR := @Bool.rec (fun _ => FR) .bad (.ok (.bool (f a b)) S 0) (kEq k l)
noncomputable def neQ (a b : Int) : Bool := @Bool.rec (fun _ => Bool) true false (eqQ a b)
noncomputable def gtQ (a b : Int) : Bool := ltQ b a
noncomputable def geQ (a b : Int) : Bool := leQ b a
structure BB where
  f : IntKind → IntKind → Int → Int → FS → FR
noncomputable def bB (op : BinOp) : BB := @BinOp.rec (fun _ => BB) ⟨b_ar addQ⟩ ⟨b_ar subQ⟩ ⟨binL .mul⟩ ⟨binL .quo⟩ ⟨binL .rem⟩ ⟨binL .and⟩ ⟨binL .or⟩ ⟨binL .xor⟩ ⟨binK .shl⟩ ⟨binK .shr⟩ ⟨binL .andNot⟩ ⟨b_cm eqQ⟩ ⟨b_cm neQ⟩ ⟨b_cm ltQ⟩ ⟨b_cm leQ⟩ ⟨b_cm gtQ⟩ ⟨b_cm geQ⟩ op
noncomputable def v_bin2 (y : AV) (f : IntKind → IntKind → Int → Int → FS → FR) (k : IntKind) (a : Int) (S : FS) : FR := @AV.rec (fun _ => (IntKind → IntKind → Int → Int → FS → FR) → IntKind → Int → FS → FR) (fun _ => PUnit) (fun f k a S => .bad) (fun _ f k a S => .bad) (fun l b f k a S => f k l a b S) (fun _ f k a S => .bad) (fun f k a S => .bad) (fun _ _ f k a S => .bad) (fun _ _ f k a S => .bad) (fun f k a S => .bad) (fun _ _ _ _ f k a S => .bad) (fun _ _ _ _ f k a S => .bad) (fun f k a S => .bad) (fun _ _ _ f k a S => .bad) (fun _ _ f k a S => .bad) (fun _ _ f k a S => .bad) (fun _ _ _ f k a S => .bad) PUnit.unit (fun _ _ _ _ => PUnit.unit) y f k a S
noncomputable def v_bin (op : BinOp) (f : IntKind → IntKind → Int → Int → FS → FR) (x y : AV) (S : FS) : FR := @AV.rec (fun _ => BinOp → (IntKind → IntKind → Int → Int → FS → FR) → AV → FS → FR) (fun _ => PUnit) (fun op f y S => .bad) (fun _ op f y S => .bad) (fun k a op f y S => v_bin2 y f k a S) (fun s op f y S => pf (binV op (.str s) y) S) (fun op f y S => .bad) (fun _ _ op f y S => .bad) (fun _ _ op f y S => .bad) (fun op f y S => .bad) (fun _ _ _ _ op f y S => .bad) (fun _ _ _ _ op f y S => .bad) (fun op f y S => .bad) (fun _ _ _ op f y S => .bad) (fun _ _ op f y S => .bad) (fun _ _ op f y S => .bad) (fun _ _ _ op f y S => .bad) PUnit.unit (fun _ _ _ _ => PUnit.unit) x op f y S
noncomputable def obBin (gl : Nat → AV) (op : BinOp) (x y : Opd) : OB := @BB.rec (fun _ => (Nat → AV) → BinOp → Opd → Opd → OB) (fun f gl op x y => ob2 gl (v_bin op f) x y) (bB op) gl op x y
noncomputable def obEqv (gl : Nat → AV) (neg : Bool) (q : EqK) (x y : Opd) : OB := @EqK.rec (fun _ => (Nat → AV) → Bool → Opd → Opd → OB) (fun f gl neg x y => ob2 gl (eqvB neg (.flat f)) x y) (fun gl neg x y => ob2 gl (isP neg) x y) (fun gl neg x y => ob2 gl (isS neg) x y) (fun l gl neg x y => ob2 gl (eqvB neg (.ifc l)) x y) q gl neg x y
noncomputable def v_not (x : AV) (S : FS) : FR := @AV.rec (fun _ => FS → FR) (fun _ => PUnit) (fun S => .bad) (fun b S => .ok (.bool (@Bool.rec (fun _ => Bool) true false b)) S 0) (fun k n S => pf (unV .not (.int k n)) S) (fun _ S => .bad) (fun S => .bad) (fun _ _ S => .bad) (fun _ _ S => .bad) (fun S => .bad) (fun _ _ _ _ S => .bad) (fun _ _ _ _ S => .bad) (fun S => .bad) (fun _ _ _ S => .bad) (fun _ _ S => .bad) (fun _ _ S => .bad) (fun _ _ _ S => .bad) PUnit.unit (fun _ _ _ _ => PUnit.unit) x S
noncomputable def obUn (gl : Nat → AV) (op : UnOp) (x : Opd) : OB := @UnOp.rec (fun _ => (Nat → AV) → Opd → OB) (fun gl x => obK gl (k_un .neg x)) (fun gl x => obK gl (k_un .xor x)) (fun gl x => ob1 gl v_not x) (fun gl x => obK gl (k_un .plus x)) op gl x
noncomputable def v_fa (off : Nat) (x : AV) (S : FS) : FR := @AV.rec (fun _ => Nat → FS → FR) (fun _ => PUnit) (fun off S => .bad) (fun _ off S => .bad) (fun _ _ off S => .bad) (fun _ off S => .bad) (fun off S => .bad) (fun b q off S => .ok (.ptr b (Nat.add q off)) S 0) (fun cs _ off S => bK (Nat.ble off cs.length) (.ok (.rp (cs.drop off)) S 0) .bad) (fun off S => .bad) (fun _ _ _ _ off S => .bad) (fun _ _ _ _ off S => .bad) (fun off S => .bad) (fun _ _ _ off S => .bad) (fun _ _ off S => .bad) (fun _ _ off S => .bad) (fun _ _ _ off S => .bad) PUnit.unit (fun _ _ _ _ => PUnit.unit) x off S
noncomputable def v_ixa (size : Nat) (x i : AV) (S : FS) : FR := @AV.rec (fun _ => Nat → AV → FS → FR) (fun _ => PUnit) (fun size i S => .bad) (fun _ size i S => .bad) (fun _ _ size i S => .bad) (fun _ size i S => .bad) (fun size i S => .bad) (fun _ _ size i S => .bad) (fun _ _ size i S => .bad) (fun size i S => .bad) (fun cs n _ _ size i S => idxK n i fun j => .ok (.rp (cs.drop (Nat.mul j size))) S 0) (fun _ b q n size i S => idxK n i fun j => .ok (.ptr b (Nat.add q (Nat.mul j size))) S 0) (fun size i S => .bad) (fun _ _ _ size i S => .bad) (fun _ _ size i S => .bad) (fun _ _ size i S => .bad) (fun _ _ _ size i S => .bad) PUnit.unit (fun _ _ _ _ => PUnit.unit) x size i S
noncomputable def v_nchk (x : AV) (S : FS) : FR := @AV.rec (fun _ => FS → FR) (fun _ => PUnit) (fun S => .bad) (fun _ S => .bad) (fun _ _ S => .bad) (fun _ S => .bad) (fun S => .bad) (fun b q S => .ok (.ptr b q) S 0) (fun cs _ S => .ok (.rp cs) S 0) (fun S => .bad) (fun _ _ _ _ S => .bad) (fun _ _ _ _ S => .bad) (fun S => .bad) (fun _ _ _ S => .bad) (fun _ _ S => .bad) (fun _ _ S => .bad) (fun f cs _ S => .ok (.clo f cs) S 0) PUnit.unit (fun _ _ _ _ => PUnit.unit) x S
noncomputable def v_ext (i : Nat) (x : AV) (S : FS) : FR := @AV.rec (fun _ => Nat → FS → FR) (fun _ => PUnit) (fun i S => .bad) (fun _ i S => .bad) (fun _ _ i S => .bad) (fun _ i S => .bad) (fun i S => .bad) (fun _ _ i S => .bad) (fun _ _ i S => .bad) (fun i S => .bad) (fun _ _ _ _ i S => .bad) (fun _ _ _ _ i S => .bad) (fun i S => .bad) (fun _ _ _ i S => .bad) (fun _ _ i S => .bad) (fun vs _ i S => pf ((nthN i).f vs) S) (fun _ _ _ i S => .bad) PUnit.unit (fun _ _ _ _ => PUnit.unit) x i S
noncomputable def v_len (x : AV) (S : FS) : FR := @AV.rec (fun _ => FS → FR) (fun _ => PUnit) (fun S => .bad) (fun _ S => .bad) (fun _ _ S => .bad) (fun _ S => .bad) (fun S => .bad) (fun _ _ S => .bad) (fun _ _ S => .bad) (fun S => .ok (.int .i64 (Int.ofNat 0)) S 0) (fun _ n _ _ S => .ok (.int .i64 (Int.ofNat n)) S 0) (fun _ _ _ n S => .ok (.int .i64 (Int.ofNat n)) S 0) (fun S => .bad) (fun _ _ _ S => .bad) (fun _ _ S => .bad) (fun _ _ S => .bad) (fun _ _ _ S => .bad) PUnit.unit (fun _ _ _ _ => PUnit.unit) x S
noncomputable def ld1 (q : Nat) (S : FS) (_ : Nat) (cs : List AV) : FR := pfl ((nthN q).f cs) S
noncomputable def ldn (n q : Nat) (S : FS) (_ : Nat) (cs : List AV) : FR := (dropN q).f cs fun r => (takeN n).f r (aggK S 1)
noncomputable def v_load1 (x : AV) (S : FS) : FR := @AV.rec (fun _ => FS → FR) (fun _ => PUnit) (fun S => .bad) (fun _ S => .bad) (fun _ _ S => .bad) (fun _ S => .bad) (fun S => .bad) (fun b q S => cellsK S b (ld1 q S)) (fun cs _ S => pf ((nthN 0).f cs) S) (fun S => .bad) (fun _ _ _ _ S => .bad) (fun _ _ _ _ S => .bad) (fun S => .bad) (fun _ _ _ S => .bad) (fun _ _ S => .bad) (fun _ _ S => .bad) (fun _ _ _ S => .bad) PUnit.unit (fun _ _ _ _ => PUnit.unit) x S
noncomputable def v_loadn (n : Nat) (x : AV) (S : FS) : FR := @AV.rec (fun _ => Nat → FS → FR) (fun _ => PUnit) (fun n S => .bad) (fun _ n S => .bad) (fun _ _ n S => .bad) (fun _ n S => .bad) (fun n S => .bad) (fun b q n S => cellsK S b (ldn n q S)) (fun cs _ n S => (takeN n).f cs (aggK S 0)) (fun n S => .bad) (fun _ _ _ _ n S => .bad) (fun _ _ _ _ n S => .bad) (fun n S => .bad) (fun _ _ _ n S => .bad) (fun _ _ n S => .bad) (fun _ _ n S => .bad) (fun _ _ _ n S => .bad) PUnit.unit (fun _ _ _ _ => PUnit.unit) x n S
noncomputable def obLoad (gl : Nat → AV) (n : Option Nat) (x : Opd) : OB := @Option.rec Nat (fun _ => (Nat → AV) → Opd → OB) (fun gl x => ob1 gl v_load1 x) (fun n gl x => ob1 gl (v_loadn n) x) n gl x
noncomputable def updK (S : FS) (b z : Nat) (cs : List AV) : FR := .ok .undef (S.upd b (.cells z cs)) 2
noncomputable def stK (S : FS) (b q n : Nat) (v : AV) (z : Nat) (cs : List AV) : FR := optK (cells1 v) fun vs => bK (Nat.beq (lenQ vs) n) (ovlN q vs cs (updK S b z)) .bad
noncomputable def v_store (n : Nat) (x v : AV) (S : FS) : FR := @AV.rec (fun _ => Nat → AV → FS → FR) (fun _ => PUnit) (fun n v S => .bad) (fun _ n v S => .bad) (fun _ _ n v S => .bad) (fun _ n v S => .bad) (fun n v S => .bad) (fun b q n v S => cellsK S b (stK S b q n v)) (fun _ _ n v S => .bad) (fun n v S => .bad) (fun _ _ _ _ n v S => .bad) (fun _ _ _ _ n v S => .bad) (fun n v S => .bad) (fun _ _ _ n v S => .bad) (fun _ _ n v S => .bad) (fun _ _ n v S => .bad) (fun _ _ _ n v S => .bad) PUnit.unit (fun _ _ _ _ => PUnit.unit) x n v S
structure AB where
  f : FE → FS → (List AV → FS → FR) → FR
noncomputable def fz1 (g : FE → FS → (List AV → FS → FR) → FR) (E : FE) (f : List AV → FS → FR) (v : AV) (S : FS) : FR := g E S fun vs S' => f (v :: vs) S'
noncomputable def aB (gl : Nat → AV) (l : List (Nat × Opd)) : AB := @List.rec (Nat × Opd) (fun _ => (Nat → AV) → AB) (fun _ => ⟨fun _ S f => f [] S⟩)
  (fun p _ ih gl => @XB.rec (fun _ => Nat → AB → AB) (fun fx n a => @AB.rec (fun _ => (FE → AV) → Nat → AB) (fun g fx n => ⟨fun E S f => fzK n S (fx E) (fz1 g E f)⟩) a fx n) (xB gl p.2) p.1 (ih gl)) l gl
noncomputable def obCall (gl : Nat → AV) (f : Nat) (args : List (Nat × Opd)) : OB := @AB.rec (fun _ => Nat → OB) (fun g f => ⟨fun call E S => g E S (callC call f)⟩) (aB gl args) f
noncomputable def oB (gl : Nat → AV) (m : MOp) : OB := @MOp.rec (fun _ => (Nat → AV) → OB) (fun x gl => ob1 gl (fun v S => .ok v S 0) x) (fun c a b gl => ob3 gl v_pick c a b) (fun op x y gl => obBin gl op x y) (fun neg q x y gl => obEqv gl neg q x y) (fun op x gl => obUn gl op x) (fun c x gl => obK gl (k_conv c x)) (fun t x gl => obK gl (k_mki t x)) (fun size x lo hi gl => obK gl (k_slc size x lo hi)) (fun x lo hi gl => obK gl (k_sls x lo hi)) (fun x gl => obK gl (k_lens x)) (fun x i gl => obK gl (k_ixs x i)) (fun off x gl => ob1 gl (v_fa off) x) (fun off n x gl => obK gl (k_fld off n x)) (fun size x i gl => ob2 gl (v_ixa size) x i) (fun len size x i gl => obK gl (k_ixp len size x i)) (fun len size agg x i gl => obK gl (k_ix len size agg x i)) (fun n x gl => obLoad gl n x) (fun n x v gl => ob2 gl (v_store n) x v) (fun x gl => ob1 gl v_nchk x) (fun t z ok x gl => obK gl (k_tas t z ok x)) (fun i x gl => ob1 gl (v_ext i) x) (fun f args gl => obCall gl f args) (fun x gl => ob1 gl v_len x) (fun args gl => obK gl (k_mn args)) (fun args gl => obK gl (k_mx args)) (fun h size bytes x y gl => obK gl (k_app h size bytes x y)) (fun zs ps gl => obK gl (k_build zs ps)) (fun h size len zs ps gl => obK gl (k_bsl h size len zs ps)) (fun size len zs ps gl => obK gl (k_bsi size len zs ps)) (fun zs gl => obK gl (k_alloc zs)) (fun x gl => obK gl (k_box x)) (fun size bytes zs l c gl => obK gl (k_mks size bytes zs l c)) (fun size x y gl => obK gl (k_cpy size x y)) (fun x gl => obK gl (k_rng x)) (fun x gl => obK gl (k_nxt x)) (fun f cs gl => obK gl (k_mkc f cs)) (fun x args gl => obK gl (k_callv x args)) m gl
/-! What an oracle answers. -/
noncomputable def popN (S : FS) (mk : AV → Nt) (w : AV → FS → FR) : FR := match S with
  | ⟨h, nx, ck, ⟨notes, t :: ts⟩⟩ => w t ⟨h, nx, ck, ⟨mk t :: notes, ts⟩⟩
  | _ => .bad
noncomputable def okt (k : Nat) (t : AV) (S : FS) : FR := .ok t S k
/-- An unknown list with its ticket. -/
def tkd (t : AV) (b v z : Nat) : AV := match t with
  | .clo f _ => .clo f [.hs z b v 0]
  | t => t
def isLf : AV → Bool
  | .clo f [] => Nat.ble bigN f
  | _ => false
noncomputable def appL (size bytes : Nat) (x y : AV) (S : FS) : FR := match x with
  | .nils => popN S (.app size bytes x y) fun t S' => bK (isLf t) (S'.newR (.tick size 0) fun b S'' => .ok (tkd t b 0 size) S'' 2) .bad
  | .sl _ _ (some (b, v, _)) => tickK S b fun z v' => bK (Nat.beq z size && Nat.beq v v') (popN S (.app size bytes x y) fun t S' => bK (isLf t) (.ok (tkd t b (Nat.succ v) size) (S'.upd b (.tick size (Nat.succ v))) 2) .bad) .bad
  | .clo _ [.hs _ b v _] => tickK S b fun z v' => bK (Nat.beq z size && Nat.beq v v') (popN S (.app size bytes x y) fun t S' => bK (isLf t) (.ok (tkd t b (Nat.succ v) size) (S'.upd b (.tick size (Nat.succ v))) 2) .bad) .bad
  | _ => .bad
noncomputable def leafF (m : MOp) (o : Opd → AV) (S : FS) : FR := match m with
  | .bin op x y => popN S (.bin op (o x) (o y)) (okt 0)
  | .un op x => popN S (.un op (o x)) (okt 0)
  | .conv .s2b x => popN S (.s2b (o x)) (okt 2)
  | .conv c x => popN S (.conv c (o x)) (okt 0)
  | .eqv neg q x y => popN S (.eqv neg q (o x) (o y)) (okt 0)
  | .lens x => popN S (.lens (o x)) (okt 0)
  | .len x => popN S (.len (o x)) (okt 0)
  | .mn xs => popN S (.mn (xs.map o)) (okt 0)
  | .mx xs => popN S (.mx (xs.map o)) (okt 0)
  | .ixs x i => popN S (.ixs (o x) (o i)) (okt 0)
  | .sls x lo hi => popN S (.sls (o x) (lo.map o) (hi.map o)) (okt 0)
  | .slc z x lo hi => popN S (.slc z (o x) (lo.map o) (hi.map o)) (okt 0)
  | .ixa z x i => popN S (.ixa z (o x) (o i)) (okt 0)
  | .load n x => popN S (.load n (o x)) (okt 0)
  | .app h size bytes x y => bK h .bad (appL size bytes (o x) (o y) S)
  | _ => .bad
def lkO : MOp → Nat
  | .bin _ _ _ => 1
  | .un _ _ => 1
  | .conv _ _ => 1
  | .eqv _ _ _ _ => 1
  | .lens _ => 1
  | .len _ => 1
  | .mn _ => 1
  | .mx _ => 1
  | .ixs _ _ => 1
  | .sls _ _ _ => 1
  | .slc _ _ _ _ => 1
  | .ixa _ _ _ => 1
  | .load _ _ => 1
  | .app _ _ _ _ _ => 1
  | .nchk _ => 2
  | .callv _ _ => 3
  | _ => 0
def cvX : MOp → Opd
  | .callv x _ => x
  | _ => .c .undef
noncomputable def orL (gl : Nat → AV) (m : MOp) (r : FR) (E : FE) (S : FS) : FR := @FR.rec (fun _ => (Nat → AV) → MOp → FE → FS → FR) (fun gl m E S => leafF m (fo gl E) S) (fun v S' k _ _ _ _ => .ok v S' k) r gl m E S
noncomputable def orN (r : FR) : FR := match r with
  | .ok v S k => bK (notLf v) (.ok v S k) .bad
  | .bad => .bad
noncomputable def hW (gl : Nat → AV) (m : MOp) (ob : OB) : OB := @OB.rec (fun _ => (Nat → AV) → MOp → Nat → OB) (fun r gl m n => match n with
  | 0 => ⟨r⟩
  | 1 => ⟨fun call E S => orL gl m (r call E S) E S⟩
  | 2 => ⟨fun call E S => orN (r call E S)⟩
  | _ => ⟨fun call E S => bK (notLf (fo gl E (cvX m))) (r call E S) .bad⟩) ob gl m (lkO m)
noncomputable def hB (gl : Nat → AV) (m : MOp) : OB := @Bool.rec (fun _ => (Nat → AV) → MOp → OB) (fun _ _ => ⟨fun _ _ _ => .bad⟩) (fun gl m => hW gl m (oB gl m)) (okOp m) gl m
/-- A function in whose stead the oracle speaks. -/
noncomputable def hX (f : Nat) (args : List AV) (S : FS) : FR := popN S (.call f args) (okt 2)
/-! Steps. -/
noncomputable def gdK (E : FE) (i : Nat) (w : Bool) (a b : FO) : FO := @AV.rec (fun _ => Bool → FO → FO → FO) (fun _ => PUnit) (fun w a b => .bad) (fun c w a b => @Bool.rec (fun _ => FO) (@Bool.rec (fun _ => FO) a b w) (@Bool.rec (fun _ => FO) b a w) c) (fun _ _ w a b => .bad) (fun _ w a b => .bad) (fun w a b => .bad) (fun _ _ w a b => .bad) (fun _ _ w a b => .bad) (fun w a b => .bad) (fun _ _ _ _ w a b => .bad) (fun _ _ _ _ w a b => .bad) (fun w a b => .bad) (fun _ _ _ w a b => .bad) (fun _ _ w a b => .bad) (fun cs _ w a b => @List.rec AV (fun _ => FO → FO) (fun b => b) (fun _ _ _ _ => .bad) cs b) (fun _ _ _ w a b => .bad) PUnit.unit (fun _ _ _ _ => PUnit.unit) (E.at i) w a b
structure QB where
  q : FCall → FE → FS → FO
/-- A result is put by. -/
structure DB where
  f : AV → FE → FE
noncomputable def dB (n : Nat) (d : Option Nat) : Option DB := @Option.rec Nat (fun _ => Nat → Option DB) (fun _ => some ⟨fun _ E => E⟩) (fun i n => @Bool.rec (fun _ => Nat → Option DB) (fun _ => none) (fun i => @WB.rec (fun _ => Option DB) (fun f => some ⟨f⟩) (wrN i)) (Nat.ble (Nat.succ i) n) i) d n
noncomputable def frQ (r : FR) (f : AV → FE → FE) (ih : QB) (call : FCall) (E : FE) : FO := @FR.rec (fun _ => (AV → FE → FE) → QB → FCall → FE → FO) (fun _ _ _ _ => .bad) (fun v S _ f ih call E => ih.q call (f v E) S) r f ih call E
noncomputable def stepQ (g : FCall → FE → FS → FR) (f : AV → FE → FE) (ih : QB) : QB := ⟨fun call E S => frQ (g call E S) f ih call E⟩
noncomputable def gardQ (i : Nat) (w : Bool) (f : AV → FE → FE) (a ih : QB) : QB := ⟨fun call E S => gdK E i w (a.q call E S) (ih.q call (f (.tup []) E) S)⟩
noncomputable def insQ (gl : Nat → AV) (d : DB) (op : MOp) (g : Option (Nat × Bool)) (ih : QB) : QB := @DB.rec (fun _ => OB → Option (Nat × Bool) → QB → QB)
  (fun f o g ih => @OB.rec (fun _ => (AV → FE → FE) → Option (Nat × Bool) → QB → QB) (fun r f g ih => @Option.rec (Nat × Bool) (fun _ => (FCall → FE → FS → FR) → (AV → FE → FE) → QB → QB) (fun r f ih => stepQ r f ih) (fun p r f ih => gardQ p.1 p.2 f (stepQ r f ih) ih) g r f ih) o f g ih) d (hB gl op) g ih
noncomputable def opsQ (gl : Nat → AV) (n : Nat) (ops : List MIns) : QB :=
  @List.rec MIns (fun _ => (Nat → AV) → Nat → QB) (fun _ _ => ⟨fun _ E S => .nrm E S⟩) (fun i _ ih gl n => @MIns.rec (fun _ => (Nat → AV) → Nat → QB → QB) (fun d op g gl n ih => @Option.rec DB (fun _ => (Nat → AV) → MOp → Option (Nat × Bool) → QB → QB) (fun _ _ _ _ => ⟨fun _ _ _ => .bad⟩) (fun d gl op g ih => insQ gl d op g ih) (dB n d) gl op g ih) i gl n (ih gl n)) ops gl n
structure FRec where
  j : Nat
  n : Nat
  b : Nat
  S : FS
  S' : FS
noncomputable def blkF (o : Opd → AV) : MOp → Nat
  | .load _ x => match o x with
    | .ptr b _ => b
    | _ => 0
  | .conv _ x => match o x with
    | .hs _ b _ _ => b
    | _ => 0
  | _ => 0
/-- Made ahead of all: which ones, and their cells. -/
def isA (i : MIns) : Bool := match i.op, i.guard with
  | .alloc _, none => true
  | .mks _ _ _ _ _, none => true
  | _, _ => false
def azo (o : Opd → AV) (is : List MIns) (i : MIns) : Option (Nat × List AV) :=
  match i.op, i.guard with
  | .alloc zs, none => some (0, zs)
  | .mks size bytes zs l c, none => (madeV size bytes zs 0 (o (rootO is 8 l)) (o (rootO is 8 c))).map (·.2)
  | _, _ => none
def placeo (o : Opd → AV) (op : MOp) (n : Nat) : Option (AV × Nat × List AV) :=
  match op with
  | .alloc zs => some (.ptr n 0, 0, zs)
  | .mks size bytes zs l c => madeV size bytes zs n (o l) (o c)
  | _ => none
structure SB where
  f : (Opd → AV) → FS → (FS → FO) → FO
noncomputable def resF (all ops : List MIns) : SB :=
  @List.rec MIns (fun _ => List MIns → SB) (fun _ => ⟨fun _ S f => f S⟩) (fun i _ ih all => @Bool.rec (fun _ => MIns → List MIns → SB → SB) (fun _ _ r => r)
    (fun i all r => ⟨fun o S f => @Option.rec (Nat × List AV) (fun _ => FO) .bad (fun zs => S.newO (.cells zs.1 zs.2) fun _ S' => r.f o S' f) (azo o all i)⟩) (isA i) i all (ih all)) ops all
noncomputable def stillF (S S' : FS) (b : Nat) : Bool := @Bool.rec (fun _ => Bool)
  (@Option.rec FB (fun _ => Bool) false (fun x => @Option.rec FB (fun _ => Bool) false (fun y => Nat.beq x.t y.t) (S'.at b)) (S.at b)) true (Nat.ble S'.nx b)
noncomputable def calm2 (x y : FRec) : Bool := match x.n, y.n with
  | 1, 1 => true
  | 1, _ => stillF y.S y.S' x.b
  | _, 1 => stillF x.S x.S' y.b
  | _, _ => false
/-- Newest first. -/
noncomputable def calmF (before : List Nat) : List FRec → Bool
  | [] => true
  | y :: l => (l.all fun x => (before.getD y.j 0).testBit x.j || calm2 x y) && calmF before l
structure LQ where
  q : FCall → Nat → Nat → FE → FS → List FRec → FO
noncomputable def addR (k j : Nat) (op : MOp) (o : Opd → AV) (S S' : FS) (l : List FRec) : List FRec := @Nat.rec (fun _ => Nat → MOp → (Opd → AV) → FS → FS → List FRec → List FRec) (fun _ _ _ _ _ l => l) (fun k _ j op o S S' l => ⟨j, Nat.succ k, blkF o op, S, S'⟩ :: l) k j op o S S' l
noncomputable def frL (r : FR) (gl : Nat → AV) (op : MOp) (f : AV → FE → FE) (ih : LQ) (call : FCall) (j m : Nat) (E : FE) (S : FS) (l : List FRec) : FO := @FR.rec (fun _ => (Nat → AV) → MOp → (AV → FE → FE) → LQ → FCall → Nat → Nat → FE → FS → List FRec → FO) (fun _ _ _ _ _ _ _ _ _ _ => .bad) (fun v S' k gl op f ih call j m E S l => ih.q call (Nat.succ j) m (f v E) S' (addR k j op (fo gl E) S S' l)) r gl op f ih call j m E S l
noncomputable def stepL (gl : Nat → AV) (op : MOp) (g : FCall → FE → FS → FR) (f : AV → FE → FE) (ih : LQ) : LQ := ⟨fun call j m E S l => frL (g call E S) gl op f ih call j m E S l⟩
noncomputable def gardL (i : Nat) (w : Bool) (f : AV → FE → FE) (a ih : LQ) : LQ := ⟨fun call j m E S l => gdK E i w (a.q call j m E S l) (ih.q call (Nat.succ j) m (f (.tup []) E) S l)⟩
noncomputable def placeF (gl : Nat → AV) (op : MOp) (f : AV → FE → FE) (ih : LQ) : LQ := ⟨fun call j m E S l =>
  @Option.rec (AV × Nat × List AV) (fun _ => FO) .bad (fun p => @Bool.rec (fun _ => FO) .bad (ih.q call (Nat.succ j) (Nat.succ m) (f p.1 E) S (⟨j, 1, m, S, S⟩ :: l)) (sameO ((S.at m).map FB.o) (some (.cells p.2.1 p.2.2)))) (placeo (fo gl E) op m)⟩
noncomputable def insL (gl : Nat → AV) (d : DB) (op : MOp) (g : Option (Nat × Bool)) (ih : LQ) : LQ := @DB.rec (fun _ => OB → (Nat → AV) → MOp → Option (Nat × Bool) → LQ → LQ)
  (fun f o gl op g ih => @OB.rec (fun _ => (AV → FE → FE) → (Nat → AV) → MOp → Option (Nat × Bool) → LQ → LQ) (fun r f gl op g ih => @Option.rec (Nat × Bool) (fun _ => (FCall → FE → FS → FR) → (AV → FE → FE) → (Nat → AV) → MOp → LQ → LQ) (fun r f gl op ih => stepL gl op r f ih) (fun p r f gl op ih => gardL p.1 p.2 f (stepL gl op r f ih) ih) g r f gl op ih) o f gl op g ih) d (hB gl op) gl op g ih
noncomputable def insA (gl : Nat → AV) (d : DB) (i : MIns) (ih : LQ) : LQ := @Bool.rec (fun _ => (Nat → AV) → DB → MIns → LQ → LQ) (fun gl d i ih => insL gl d i.op i.guard ih) (fun gl d i ih => @DB.rec (fun _ => (Nat → AV) → MOp → LQ → LQ) (fun f gl op ih => placeF gl op f ih) d gl i.op ih) (isA i) gl d i ih
noncomputable def loudQ (gl : Nat → AV) (n : Nat) (before : List Nat) (ops : List MIns) : LQ :=
  @List.rec MIns (fun _ => (Nat → AV) → Nat → List Nat → LQ) (fun _ _ before => ⟨fun _ _ _ E S l => @Bool.rec (fun _ => FO) .bad (.nrm E S) (calmF before l)⟩)
    (fun i _ ih gl n before => @Option.rec DB (fun _ => (Nat → AV) → MIns → LQ → LQ) (fun _ _ _ => ⟨fun _ _ _ _ _ _ => .bad⟩) (fun d gl i ih => insA gl d i ih) (dB n i.dst) gl i (ih gl n before)) ops gl n before
noncomputable def seqK (r : FO) (f : FE → FS → FO) : FO := @FO.rec (fun _ => (FE → FS → FO) → FO) (fun _ => .bad) (fun E S f => f E S) (fun i E S _ => .exit i E S) (fun E S _ => .ret E S) r f
noncomputable def blockK (i : Nat) (r : FO) : FO := @FO.rec (fun _ => Nat → FO) (fun _ => .bad) (fun E S _ => .nrm E S) (fun j E S i => @Bool.rec (fun _ => FO) (.exit j E S) (.nrm E S) (Nat.beq j i)) (fun E S _ => .ret E S) r i
noncomputable def liveL : List Bool → Nat → List Nat
  | [], _ => []
  | b :: bs, i => @Bool.rec (fun _ => List Nat) (liveL bs (Nat.succ i)) (i :: liveL bs (Nat.succ i)) b
structure KB where
  f : FE → FE
/-- What lives on stays. -/
noncomputable def keepB (l : List Nat) : KB := @List.rec Nat (fun _ => KB) ⟨fun _ => N16.nil⟩ (fun i _ ih => @RB.rec (fun _ => WB → KB → KB) (fun r w k => @WB.rec (fun _ => (FE → AV) → KB → KB) (fun w r k => @KB.rec (fun _ => (AV → FE → FE) → (FE → AV) → KB) (fun k w r => ⟨fun E => w (r E) (k E)⟩) k w r) w r k) (rdN i) (wrN i) ih) l
noncomputable def keepE (E : FE) (l : List Bool) : FE := (keepB (liveL l 0)).f E
noncomputable def fIter (f : FE → FS → FO) (live : List Bool) (k : Nat) : FE → FS → FO := @Nat.rec (fun _ => (FE → FS → FO) → List Bool → FE → FS → FO) (fun _ _ _ _ => .bad) (fun _ ih f live E S => seqK (f (keepE E live) S) (ih f live)) k f live
structure CB where
  c : Nat → FCall → FE → FS → FO
noncomputable def seqC (a b : CB) : CB := ⟨fun k call E S => seqK (a.c k call E S) (b.c k call)⟩
noncomputable def drawC (gl : Nat → AV) (ops : List MIns) (q : LQ) : CB := @SB.rec (fun _ => CB) (fun r => ⟨fun _ call E S => r (fo gl E) S fun S' => q.q call 0 S.nx E S' []⟩) (resF ops ops)
noncomputable def drawH (gl : Nat → AV) (ops : List MIns) (q : LQ) : CB := @Bool.rec (fun _ => CB) ⟨fun _ _ _ _ => .bad⟩ (drawC gl ops q) (ops.all fun i => okOp i.op)
noncomputable def condV (v : AV) (a b : CB) : CB := @AV.rec (fun _ => CB → CB → CB) (fun _ => PUnit) (fun a b => ⟨fun _ _ _ _ => .bad⟩) (fun c a b => @Bool.rec (fun _ => CB) b a c) (fun _ _ a b => ⟨fun _ _ _ _ => .bad⟩) (fun _ a b => ⟨fun _ _ _ _ => .bad⟩) (fun a b => ⟨fun _ _ _ _ => .bad⟩) (fun _ _ a b => ⟨fun _ _ _ _ => .bad⟩) (fun _ _ a b => ⟨fun _ _ _ _ => .bad⟩) (fun a b => ⟨fun _ _ _ _ => .bad⟩) (fun _ _ _ _ a b => ⟨fun _ _ _ _ => .bad⟩) (fun _ _ _ _ a b => ⟨fun _ _ _ _ => .bad⟩) (fun a b => ⟨fun _ _ _ _ => .bad⟩) (fun _ _ _ a b => ⟨fun _ _ _ _ => .bad⟩) (fun _ _ a b => ⟨fun _ _ _ _ => .bad⟩) (fun _ _ a b => ⟨fun _ _ _ _ => .bad⟩) (fun _ _ _ a b => ⟨fun _ _ _ _ => .bad⟩) PUnit.unit (fun _ _ _ _ => PUnit.unit) v a b
noncomputable def condC (gl : Nat → AV) (x : Opd) (a b : CB) : CB := @XB.rec (fun _ => CB → CB → CB) (fun f a b => ⟨fun k call E S => (condV (f E) a b).c k call E S⟩) (xB gl x) a b
noncomputable def blockC (i : Nat) (a : CB) : CB := ⟨fun k call E S => blockK i (a.c k call E S)⟩
noncomputable def loopC (live : List Bool) (a : CB) : CB := ⟨fun k call E S => fIter (a.c k call) live k E S⟩
noncomputable def cB (gl : Nat → AV) (n : Nat) (c : MC) : CB := @MC.rec (fun _ => (Nat → AV) → Nat → CB) (fun _ _ => ⟨fun _ _ E S => .nrm E S⟩) (fun ops gl n => @QB.rec (fun _ => CB) (fun q => ⟨fun _ call E S => q call E S⟩) (opsQ gl n ops)) (fun ops before gl n => drawH gl ops (loudQ gl n before ops)) (fun _ _ a b gl n => seqC (a gl n) (b gl n))
  (fun x _ _ a b gl n => condC gl x (a gl n) (b gl n)) (fun i _ a gl n => blockC i (a gl n)) (fun live _ a gl n => @Bool.rec (fun _ => CB) ⟨fun _ _ _ _ => .bad⟩ (loopC live (a gl n)) (Nat.beq live.length n)) (fun i _ _ => ⟨fun _ _ E S => .exit i E S⟩) (fun _ _ => ⟨fun _ _ E S => .ret E S⟩) c gl n
noncomputable def cellR (E : FE) (S : FS) (i : Nat) (m : Option Nat) (f : AV → FS → FR) : FR := match E.at i with
  | .ptr b q => cellsK S b fun _ cs => optK (cutQ cs q m) fun v => f v S
  | _ => .bad
noncomputable def resK (r : MRes) (E : FE) (S : FS) (f : AV → FS → FR) : FR := @MRes.rec (fun _ => FE → FS → (AV → FS → FR) → FR) (fun size i E S f => fzK size S (E.at i) f) (fun i m E S f => cellR E S i m f) r E S f
noncomputable def resL (rs : List MRes) : FE → FS → (List AV → FS → FR) → FR :=
  @List.rec MRes (fun _ => FE → FS → (List AV → FS → FR) → FR) (fun _ S f => f [] S) (fun r _ ih E S f => resK r E S fun v S' => ih E S' fun vs S'' => f (v :: vs) S'') rs
noncomputable def outE (vs : List AV) (S : FS) : FR := .ok (oneOr vs) S 2
noncomputable def outK (r : FO) (res : List MRes) : FR := @FO.rec (fun _ => List MRes → FR) (fun _ => .bad) (fun E S res => resL res E S outE) (fun _ _ _ _ => .bad) (fun E S res => resL res E S outE) r res
noncomputable def rawL (E : FE) : List MRes → Option (List AV)
  | [] => some []
  | .tmp _ i :: rs => (rawL E rs).map (E.at i :: ·)
  | .cell _ _ :: _ => none
noncomputable def rawK (r : FO) (res : List MRes) : FR := @FO.rec (fun _ => List MRes → FR) (fun _ => .bad) (fun E S res => optK (rawL E res) fun vs => outE vs S) (fun _ _ _ _ => .bad) (fun E S res => optK (rawL E res) fun vs => outE vs S) r res
noncomputable def envK (args : List AV) : Nat → FE := @List.rec AV (fun _ => Nat → FE) (fun _ => N16.nil) (fun v _ ih i => (wrN i).f v (ih (Nat.succ i))) args
noncomputable def lenK (args : List AV) : Nat := @List.rec AV (fun _ => Nat) 0 (fun _ _ n => Nat.succ n) args
noncomputable def runM (m : MFun) (gl : Nat → AV) (k : Nat) (ih : FCall) (args : List AV) (S : FS) : FR := @MFun.rec (fun _ => (Nat → AV) → Nat → FCall → List AV → FS → FR)
  (fun n res body gl k ih args S => @Bool.rec (fun _ => FR) .bad (outK ((cB gl n body).c k ih (envK args 0) S) res) (Nat.ble (lenK args) n && Nat.ble n 256)) m gl k ih args S
noncomputable def rawM (m : MFun) (gl : Nat → AV) (k : Nat) (ih : FCall) (args : List AV) (S : FS) : FR := @MFun.rec (fun _ => (Nat → AV) → Nat → FCall → List AV → FS → FR)
  (fun n res body gl k ih args S => @Bool.rec (fun _ => FR) .bad (rawK ((cB gl n body).c k ih (envK args 0) S) res) (Nat.ble (lenK args) n && Nat.ble n 256)) m gl k ih args S
noncomputable def fF (gl : Nat → AV) (F : Nat → Option MFun) (X : Nat → Option (List AV → FS → FR)) (k : Nat) : FCall :=
  @Nat.rec (fun _ => FCall) (fun _ _ _ => .bad) (fun k ih f args S => @Option.rec (List AV → FS → FR) (fun _ => Option MFun → (Nat → AV) → Nat → FCall → List AV → FS → FR)
    (fun m gl k ih args S => @Option.rec MFun (fun _ => (Nat → AV) → Nat → FCall → List AV → FS → FR) (fun _ _ _ _ _ => .bad) runM m gl k ih args S) (fun h _ _ _ _ args S => h args S) (X f) (F f) gl k ih args S) k
end Go.Ab
