/- Proves that the names of package api have the document's numbers: the printed function of glowwormlaw0.Names answers true. No conditions. -/
import Derived.Test.YtghfinbdgnggjaaPNamesx1
namespace Go.Proofs.Ytghfinbdgnggjaa.Pure
open Go.RowKit Go.Proofs.Ytghfinbdgnggjaa.PNames Go.Proofs.YtghfinbdgnggjaaW.PrintWords Go.Proofs.YtghfinbdgnggjaaW.PrintLast

/-- YOURS: ∃ k, glowwormlaw0_Names.f k  = some true
What it reaches (each with k first where it has rounds; `.mono`: more rounds tell the same; `.l0`, ..: its loops, with `.mono_l`): glowwormlaw0_Names.f -/
theorem Names : glowwormlaw0_Names.Pure := by
  refine ⟨60, ?_⟩
  decide +kernel

end Go.Proofs.Ytghfinbdgnggjaa.Pure
