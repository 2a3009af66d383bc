/- Proved: the plain statement behind the closed law ReplicaNames. Condition: none. -/
import Derived.Test.YtlfaalbkhfjpkaaPReplicaNamesx1
namespace Go.Proofs.Ytlfaalbkhfjpkaa.Pure
open Go.RowKit Go.Proofs.Ytlfaalbkhfjpkaa.PReplicaNames Go.Proofs.YtlfaalbkhfjpkaaW.PrintWords Go.Proofs.YtlfaalbkhfjpkaaW.PrintLast

/-- YOURS: ∃ k, quorumlaw15_ReplicaNames.f k  = some true
What it reaches (each with k first where it has rounds; `.mono`: more rounds tell the same; `.l0`, ..: its loops, with `.mono_l`): quorumlaw15_ReplicaNames.f -/
theorem ReplicaNames : quorumlaw15_ReplicaNames.Pure := by
  exact ⟨60, by decide +kernel⟩

end Go.Proofs.Ytlfaalbkhfjpkaa.Pure
