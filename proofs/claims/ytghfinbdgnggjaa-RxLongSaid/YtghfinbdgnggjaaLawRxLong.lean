/- The law RxLong of the package glowwormlaw1 returns true for all its arguments. No conditions. -/
import Derived.Test.YtghfinbdgnggjaaRows
import Derived.Test.YtghfinbdgnggjaaBegun
import Derived.Test.YtghfinbdgnggjaaSaysRxLong
import Derived.SizedLaws
namespace Go.Proofs.Ytghfinbdgnggjaa.rxLong
open Go Go.ChangeShapes Go.WideShapes Go.ChangeAt Go.RowKit Go.Ab
set_option linter.unusedVariables false
set_option linter.unusedSimpArgs false
theorem own : ownKnob Try.prog.godebug = none := by kernel_rfl
theorem laidOut : laidOutB Try.prog = true := by kernel_rfl
set_option maxRecDepth 100000 in
theorem lifted (os : Os) (started : os.Started) (H : Type) (enc : TypeId × Value → H) :
    ReturnsInHanded {} Try.checked os 10 .any (Rows.rxLongSpec.pre6 enc Try.prog Try.f10 Rows.rxLongRow.domain false) (Rows.rxLongSpec.post enc Try.prog Try.f10 false true false false) := by
  refine returnsInHanded_of_change_sized (C := Try.checked) own started (by kernel_rfl) Try.func10
    (ChangeSpec.witness6 (enc := enc) (C := Try.checked) false ⟨#[], #[.int .i64 0, .int .i64 0, .int .u8 0], []⟩ 8 (by kernel_rfl) (by kernel_rfl) (by kernel_rfl) (by kernel_rfl)) ?_
  intro W base args ds gs before hval0 hW hcnd hsz0 _
  have hval : ∀ (j : Nat) t v, Try.f10.params[j]? = some t → args[j]? = some v → Value.okWide Try.prog W .any base t v := hval0
  have hW' := hW
  obtain ⟨p, q, hA0, hV, rfl, hfz, hnd⟩ := hW
  have hA : DataW.TrodAll enc Try.prog W 0 (fun _ => true) true Try.f10.params.toList args.toList ds p := hA0
  obtain ⟨rfl, rfl⟩ := trodVars_none hV
  have hlt : ∀ x ∈ p, x.block < W.heap.size := fun x hx => by simpa using hW'.lt x (by simpa using hx)
  have hst := fun {W' : World} (hb : Below W.heap.size W W') => Ab.trodAll_stays laidOut hb _ _ _ _ hA (by kernel_rfl) hlt
  rw [Try.params10] at hA hval
  obtain ⟨v0, v1, v2, d0, d1, d2, p0, p1, p2, rfl, rfl, rfl, h0, h1, h2⟩ := trodAll_three hA
  obtain ⟨n0, w0, r0⟩ := Ab.arg_int Try.underlying3 (hval 0 3 v0 rfl rfl) h0
  obtain ⟨n1, w1, r1⟩ := Ab.arg_int Try.underlying3 (hval 1 3 v1 rfl rfl) h1
  obtain ⟨n2, w2, r2⟩ := Ab.arg_int Try.underlying5 (hval 2 5 v2 rfl rfl) h2
  obtain ⟨c2, q2⟩ := num8 w2
  rw [q2] at r2
  clear hA0 hval0 hsz0
  refine (Ab.calls_true (ev_ok W 1000) (says n0 (num64 w0) n1 (num64 w1) c2) (.cons _ _ _ _ r0 (.cons _ _ _ _ r1 (.cons _ _ _ _ r2 .nil)))).mono fun e W' ⟨he, bel⟩ => ?_
  subst he
  exact ⟨_, rfl, _, _, _, [], _, [], hW', trodAll_mk1 (shut_bool Try.underlying4 _), hst bel, rfl, bel.frame _, fun h => by cases h⟩
theorem over : Rows.rxLongRow.holds Try.pinned (OpenSpec.ofChange Rows.rxLongSpec) :=
  OpenClaim.holds_of_wide 10 Try.f10 rfl rfl rfl rfl rfl rfl rfl ⟨rfl, rfl, rfl, rfl, rfl⟩ rfl rfl rfl rfl rfl (by kernel_rfl) Try.func10 (by kernel_rfl)
    (of_decide_eq_true (by kernel_rfl)) (by unfold Func.isWrapper; first | (rw [if_pos (by decide +kernel)]; kernel_rfl) | (rw [if_neg (by decide +kernel)]; exact ⟨rfl, rfl⟩))
    (fun os started H enc _ => lifted os started H enc)
theorem proved : Rows.RxLongSaid := over
#print axioms proved
end Go.Proofs.Ytghfinbdgnggjaa.rxLong
namespace Go.Proofs.Ytghfinbdgnggjaa
/-- The row, under a short name, for the claim. -/
theorem rxLong_holds : Rows.RxLongSaid := rxLong.proved
end Go.Proofs.Ytghfinbdgnggjaa
