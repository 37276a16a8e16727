/- The law RxMany of the package glowwormlaw1 returns true for all its arguments. No conditions. -/
import Derived.Test.YtghfinbdgnggjaaRows
import Derived.Test.YtghfinbdgnggjaaBegun
import Derived.Test.YtghfinbdgnggjaaSaysRxMany
import Derived.SizedLaws
namespace Go.Proofs.Ytghfinbdgnggjaa.rxMany
open Go Go.ChangeShapes Go.WideShapes Go.ChangeAt Go.RowKit Go.Ab
set_option linter.unusedVariables false
set_option linter.unusedSimpArgs false
theorem own : ownKnob Try.prog.godebug = none := by kernel_rfl
theorem laidOut : laidOutB Try.prog = true := by kernel_rfl
set_option maxRecDepth 100000 in
theorem lifted (os : Os) (started : os.Started) (H : Type) (enc : TypeId × Value → H) :
    ReturnsInHanded {} Try.checked os 9 .any (Rows.rxManySpec.pre6 enc Try.prog Try.f9 Rows.rxManyRow.domain false) (Rows.rxManySpec.post enc Try.prog Try.f9 false true false false) := by
  refine returnsInHanded_of_change_sized (C := Try.checked) own started (by kernel_rfl) Try.func9
    (ChangeSpec.witness6 (enc := enc) (C := Try.checked) false ⟨#[], #[.slice none 0 0, .slice none 0 0], []⟩ 8 (by kernel_rfl) (by kernel_rfl) (by kernel_rfl) (by kernel_rfl)) ?_
  intro W base args ds gs before hval0 hW hcnd hsz0 _
  have hval : ∀ (j : Nat) t v, Try.f9.params[j]? = some t → args[j]? = some v → Value.okWide Try.prog W .any base t v := hval0
  have hW' := hW
  obtain ⟨p, q, hA0, hV, rfl, hfz, hnd⟩ := hW
  have hA : DataW.TrodAll enc Try.prog W 0 (fun _ => true) true Try.f9.params.toList args.toList ds p := hA0
  obtain ⟨rfl, rfl⟩ := trodVars_none hV
  have hlt : ∀ x ∈ p, x.block < W.heap.size := fun x hx => by simpa using hW'.lt x (by simpa using hx)
  have hst := fun {W' : World} (hb : Below W.heap.size W W') => Ab.trodAll_stays laidOut hb _ _ _ _ hA (by kernel_rfl) hlt
  rw [Try.params9] at hA hval
  obtain ⟨v0, v1, d0, d1, p0, p1, rfl, rfl, rfl, h0, h1⟩ := trodAll_two hA
  obtain ⟨x0, b0, i0, r0⟩ := Ab.arg_bytess Try.underlying35 Try.underlying24 Try.underlying5 (by kernel_rfl) (by kernel_rfl) (hval 0 35 v0 rfl rfl) h0
  obtain ⟨x1, b1, i1, r1⟩ := Ab.arg_bytes Try.underlying24 Try.underlying5 (by kernel_rfl) (hval 1 24 v1 rfl rfl) h1
  clear hA0 hval0 hsz0
  refine (Ab.calls_true (ev_ok W 1000) (says b0 i0 b1 i1) (.cons _ _ _ _ r0 (.cons _ _ _ _ r1 .nil))).mono fun e W' ⟨he, bel⟩ => ?_
  subst he
  exact ⟨_, rfl, _, _, _, [], _, [], hW', trodAll_mk1 (shut_bool Try.underlying4 _), hst bel, rfl, bel.frame _, fun h => by cases h⟩
theorem over : Rows.rxManyRow.holds Try.pinned (OpenSpec.ofChange Rows.rxManySpec) :=
  OpenClaim.holds_of_wide 9 Try.f9 rfl rfl rfl rfl rfl rfl rfl ⟨rfl, rfl, rfl, rfl, rfl⟩ rfl rfl rfl rfl rfl (by kernel_rfl) Try.func9 (by kernel_rfl)
    (of_decide_eq_true (by kernel_rfl)) (by unfold Func.isWrapper; first | (rw [if_pos (by decide +kernel)]; kernel_rfl) | (rw [if_neg (by decide +kernel)]; exact ⟨rfl, rfl⟩))
    (fun os started H enc _ => lifted os started H enc)
theorem proved : Rows.RxManySaid := over
#print axioms proved
end Go.Proofs.Ytghfinbdgnggjaa.rxMany
namespace Go.Proofs.Ytghfinbdgnggjaa
/-- The row, under a short name, for the claim. -/
theorem rxMany_holds : Rows.RxManySaid := rxMany.proved
end Go.Proofs.Ytghfinbdgnggjaa
