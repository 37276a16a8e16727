/- TurnSwap: one round. No conditions. -/
import Derived.Test.YtochnineebgbgaaDoorSwp2
set_option linter.unusedSimpArgs false
set_option linter.unusedVariables false
set_option maxRecDepth 100000
set_option maxHeartbeats 4000000
namespace Go.Proofs.YtochnineebgbgaaDoor
open Go Go.Ab
def E19o (ta tb G n : Nat) (i : Int) : Env := [.undef, .undef, .undef, .undef, .undef, .undef, .ptr ta 0, .ptr tb 0, .undef, .ptr G 0, .int .i64 (n : Nat), .int .i64 i, .undef, .undef, .undef, .undef, .undef, .undef, .undef, .undef, .undef, .undef, .undef, .undef, .undef, .undef, .undef, .undef, .undef, .undef, .undef, .undef, .undef, .undef, .undef, .undef, .undef, .undef, .undef, .undef, .undef, .undef, .undef, .undef, .undef, .undef, .undef, .undef, .undef, .undef, .undef, .undef, .undef, .undef, .undef, .undef, .undef, .undef, .undef, .undef, .undef, .undef, .undef, .undef, .undef, .undef, .undef, .undef, .undef, .undef, .undef, .undef, .undef, .undef, .undef, .undef, .undef, .undef, .undef, .undef, .undef, .undef, .undef, .undef, .undef, .undef, .undef, .undef, .undef, .undef, .undef, .undef, .undef, .undef, .undef, .undef, .undef, .undef, .undef, .undef, .undef, .undef, .undef, .undef, .undef, .undef, .undef, .undef, .undef, .undef, .undef, .undef, .undef, .undef, .undef, .undef, .undef, .undef, .undef, .undef, .undef, .undef, .undef, .undef, .undef, .undef, .undef, .undef, .undef, .undef, .undef, .undef, .undef, .undef, .undef, .undef, .undef, .undef, .undef, .undef, .undef, .undef, .undef, .undef, .undef, .undef, .undef, .undef, .undef, .undef, .undef, .undef, .undef, .undef, .undef, .undef, .undef, .undef, .undef]
theorem FrV.len {v : AV} {ps : List Fm} (h : FrV v ps) : lenV v = some (.int .i64 (ps.length : Nat)) := by
  rcases h with ⟨rfl, rfl⟩ | ⟨cs, rfl, _⟩ <;> rfl
theorem FrV.freeze {v : AV} {ps : List Fm} (h : FrV v ps) (k : Nat) (s : St) : Ab.freeze k s v = some (v, s) := by
  rcases h with ⟨rfl, rfl⟩ | ⟨cs, rfl, _⟩ <;> rfl
theorem says_le (T : Tn) (W : Nat) (hW : W ≤ 7) : (T.says W).length ≤ 8 := by
  by_cases h : T.mine = true
  · rw [says_len h]; unfold Tn.m; omega
  · unfold Tn.says; rw [if_neg h]; simp
theorem went_role (T : Tn) (W : Nat) : (T.went W).role = T.role := by
  unfold Tn.went; split <;> rfl
/-- The two hearings of a round. -/
theorem hearings (n : Nat) (i : Nat) (W : Nat) (hW : W ≤ 7) (S : St) (ta oa ia tb ob ib G g0 g1 : Nat) (A B b1 a1 : Tn) (x1 x0 : Nat) (h : DuoG S ta oa ia tb ob ib 10 W A B G g0 g1) (hA : A.ok = true) (hB : B.ok = true) (hb : b1.ok = true)
    (h1 : hears 0 (A.says W) (B, g1) = some (b1, x1)) (h0 : hears 10 (b1.says W) (A.went W, g0) = some (a1, x0)) (hg1 : g1 ≤ 300) (hg0 : g0 ≤ 300) :
    ∃ va vb S1 S2 S3 S4, evO 999 42 [.ptr ta 0] S = some (va, S1) ∧ lenV va = some (.int .i64 ((A.says W).length : Nat)) ∧
      (∀ e, maskE M19b1l e = E19a ta tb G n i va ((A.says W).length : Nat) 0 → iter (evC tabGl (evO 999) 999 M19b1) M19b1l 999 e S1 = some (.exit 4, X19a ta tb G n i va ((A.says W).length : Nat), S2)) ∧
      evO 999 42 [.ptr tb 0] S2 = some (vb, S3) ∧ lenV vb = some (.int .i64 ((b1.says W).length : Nat)) ∧
      (∀ e, maskE M19b0l e = E19b ta tb G n i vb ((b1.says W).length : Nat) 0 → iter (evC tabGl (evO 999) 999 M19b0) M19b0l 999 e S3 = some (.exit 6, X19b ta tb G n i vb ((b1.says W).length : Nat), S4)) ∧
      DuoG S4 ta oa ia tb ob ib 10 W a1 (b1.went W) G x0 x1 := by
  obtain ⟨va, S1, p1, p2, p3⟩ := go_tn h.duo.a hA hW
  have D1 := h.step p1 (fun C hC => ⟨hC, trivial⟩) p2
  obtain ⟨S2, q1, D2⟩ := hearL1 n i W va (A.says W) p3 (says_le A W hW) S1 ta oa ia tb ob ib G g0 g1 x1 (A.went W) B b1 D1 (B.ok_of hB).1 h1 hg1 (E19a ta tb G n i va ((A.says W).length : Nat) 0) rfl
  obtain ⟨vb, S3, r1, r2, r3⟩ := go_tn D2.duo.b hb hW
  have D3 := (D2.symm.step r1 (fun C hC => ⟨hC, trivial⟩) r2).symm
  obtain ⟨S4, u1, D4⟩ := hearL0 n i W vb (b1.says W) r3 (says_le b1 W hW) S3 ta oa ia tb ob ib G g0 x1 x0 (A.went W) (b1.went W) a1 D3 (by rw [went_role]; exact (A.ok_of hA).1) h0 hg0 (E19b ta tb G n i vb ((b1.says W).length : Nat) 0) rfl
  refine ⟨va, vb, S1, S2, S3, S4, p1, p3.len, fun e he => ?_, r1, r3.len, fun e he => ?_, D4⟩
  · rw [← q1, show (999 : Nat) = 998 + 1 from rfl, iter_succ, iter_succ, he]
    rfl
  · rw [← u1, show (999 : Nat) = 998 + 1 from rfl, iter_succ, iter_succ, he]
    rfl
end Go.Proofs.YtochnineebgbgaaDoor
