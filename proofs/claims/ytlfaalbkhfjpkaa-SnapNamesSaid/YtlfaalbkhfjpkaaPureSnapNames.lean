/- Proved: the plain statement behind the closed law SnapNames. Condition: none. -/
import Derived.Test.YtlfaalbkhfjpkaaPSnapNamesx1
namespace Go.Proofs.Ytlfaalbkhfjpkaa.Pure
open Go.RowKit Go.Proofs.Ytlfaalbkhfjpkaa.PSnapNames Go.Proofs.YtlfaalbkhfjpkaaW.PrintWords Go.Proofs.YtlfaalbkhfjpkaaW.PrintLast

/-- YOURS: ∃ k, quorumlaw6_SnapNames.f k  = some true
What it reaches (each with k first where it has rounds; `.mono`: more rounds tell the same; `.l0`, ..: its loops, with `.mono_l`): quorumlaw6_SnapNames.f -/
theorem SnapNames : quorumlaw6_SnapNames.Pure := by
  exact ⟨20, by decide +kernel⟩

end Go.Proofs.Ytlfaalbkhfjpkaa.Pure
