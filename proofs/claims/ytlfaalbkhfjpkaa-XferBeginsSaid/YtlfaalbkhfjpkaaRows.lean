/-
  No cell of these rows narrows 'for every input' (looked for: loops, veiled, ifaces, maps, wideKeys, modest, calm, conditions, laid).
  DERIVED. THE GIVEN ROWS OF THIS SEAT. 8 by the template 'for every input the law returns true; each argument reads behind the call as it read before'; 0 by the template 'total and deterministic' (their statements: YtlfaalbkhfjpkaaTotals.lean).
  GIVEN WITH THE SEED: the statements are not yours to turn. If you find one false, say at which input.
  Laid BY PROGRAM, IN A SANDBOX (cutbox-rows.mjs): the forced cells as the released guide's own fill.sh prints them over the translation 5c5c0cddb215691f… (all of the seat's roots in one cut). By AI agents, Wed Nov 11 2026. No macro, syntax, notation, axiom, sorry.
-/
import Derived.Test.YtlfaalbkhfjpkaaChecked
import GoSem.Claim
import GoSem.ClaimJoined
import GoSem.ClaimMapViews
import Derived.JoinedTies
import Derived.KernelRfl
namespace Go.Proofs.Ytlfaalbkhfjpkaa
/- THE CELL 'sum', in the pinned program and in every row, IS THE sha256 OF THE DUMP (.gsa) THAT YtlfaalbkhfjpkaaProg.lean LOADS. Nothing in Lean hashes anything: it is a label: what it is worth is what the hold of that sum in a sandbox is worth. -/
noncomputable def Try.pinned : Pinned := { name := "ytlfaalbkhfjpkaa", sum := "5c5c0cddb215691f0aec9d042f576ae3a0ade968db53f369204bc092dd1b9555", checked := Try.checked }
namespace Rows
def none {H : Type} : Left H := { results := [], args := [] }

/-- 'quorumlaw5.DealNames': WHATEVER THE INPUT: true; the input reads as it did. -/
def dealNamesSpec : ChangeSpec := { name := "dealNames", fn := fun _ => fun
  | [] => { results := [.lit (.bool true)], args := [] }
  | _ => none }
def dealNamesRow : OpenClaim := { program := "ytlfaalbkhfjpkaa", sum := "5c5c0cddb215691f0aec9d042f576ae3a0ade968db53f369204bc092dd1b9555", func := "quorum/quorumlaw5.DealNames", spec := "dealNames", apart := false }
def DealNamesSaid : Prop := dealNamesRow.holds Try.pinned (OpenSpec.ofChange dealNamesSpec)

/-- ITS FALSE NEIGHBOUR: 'it returns false'. Refute it at one input. -/
def dealNamesWrong : ChangeSpec := { name := "dealNames", fn := fun _ => fun
  | [] => { results := [.lit (.bool false)], args := [] }
  | _ => none }
def DealNamesWrongFalsely : Prop := dealNamesRow.holds Try.pinned (OpenSpec.ofChange dealNamesWrong)

/-- 'quorumlaw6.SnapNames': WHATEVER THE INPUT: true; the input reads as it did. -/
def snapNamesSpec : ChangeSpec := { name := "snapNames", fn := fun _ => fun
  | [] => { results := [.lit (.bool true)], args := [] }
  | _ => none }
def snapNamesRow : OpenClaim := { program := "ytlfaalbkhfjpkaa", sum := "5c5c0cddb215691f0aec9d042f576ae3a0ade968db53f369204bc092dd1b9555", func := "quorum/quorumlaw6.SnapNames", spec := "snapNames", apart := false }
def SnapNamesSaid : Prop := snapNamesRow.holds Try.pinned (OpenSpec.ofChange snapNamesSpec)

/-- ITS FALSE NEIGHBOUR: 'it returns false'. Refute it at one input. -/
def snapNamesWrong : ChangeSpec := { name := "snapNames", fn := fun _ => fun
  | [] => { results := [.lit (.bool false)], args := [] }
  | _ => none }
def SnapNamesWrongFalsely : Prop := snapNamesRow.holds Try.pinned (OpenSpec.ofChange snapNamesWrong)

/-- 'quorumlaw7.SessionNames': WHATEVER THE INPUT: true; the input reads as it did. -/
def sessionNamesSpec : ChangeSpec := { name := "sessionNames", fn := fun _ => fun
  | [] => { results := [.lit (.bool true)], args := [] }
  | _ => none }
def sessionNamesRow : OpenClaim := { program := "ytlfaalbkhfjpkaa", sum := "5c5c0cddb215691f0aec9d042f576ae3a0ade968db53f369204bc092dd1b9555", func := "quorum/quorumlaw7.SessionNames", spec := "sessionNames", apart := false }
def SessionNamesSaid : Prop := sessionNamesRow.holds Try.pinned (OpenSpec.ofChange sessionNamesSpec)

/-- ITS FALSE NEIGHBOUR: 'it returns false'. Refute it at one input. -/
def sessionNamesWrong : ChangeSpec := { name := "sessionNames", fn := fun _ => fun
  | [] => { results := [.lit (.bool false)], args := [] }
  | _ => none }
def SessionNamesWrongFalsely : Prop := sessionNamesRow.holds Try.pinned (OpenSpec.ofChange sessionNamesWrong)

/-- 'quorumlaw14.XferNames': WHATEVER THE INPUT: true; the input reads as it did. -/
def xferNamesSpec : ChangeSpec := { name := "xferNames", fn := fun _ => fun
  | [] => { results := [.lit (.bool true)], args := [] }
  | _ => none }
def xferNamesRow : OpenClaim := { program := "ytlfaalbkhfjpkaa", sum := "5c5c0cddb215691f0aec9d042f576ae3a0ade968db53f369204bc092dd1b9555", func := "quorum/quorumlaw14.XferNames", spec := "xferNames", apart := false }
def XferNamesSaid : Prop := xferNamesRow.holds Try.pinned (OpenSpec.ofChange xferNamesSpec)

/-- ITS FALSE NEIGHBOUR: 'it returns false'. Refute it at one input. -/
def xferNamesWrong : ChangeSpec := { name := "xferNames", fn := fun _ => fun
  | [] => { results := [.lit (.bool false)], args := [] }
  | _ => none }
def XferNamesWrongFalsely : Prop := xferNamesRow.holds Try.pinned (OpenSpec.ofChange xferNamesWrong)

/-- 'quorumlaw17.AuditNames': WHATEVER THE INPUT: true; the input reads as it did. -/
def auditNamesSpec : ChangeSpec := { name := "auditNames", fn := fun _ => fun
  | [] => { results := [.lit (.bool true)], args := [] }
  | _ => none }
def auditNamesRow : OpenClaim := { program := "ytlfaalbkhfjpkaa", sum := "5c5c0cddb215691f0aec9d042f576ae3a0ade968db53f369204bc092dd1b9555", func := "quorum/quorumlaw17.AuditNames", spec := "auditNames", apart := false }
def AuditNamesSaid : Prop := auditNamesRow.holds Try.pinned (OpenSpec.ofChange auditNamesSpec)

/-- ITS FALSE NEIGHBOUR: 'it returns false'. Refute it at one input. -/
def auditNamesWrong : ChangeSpec := { name := "auditNames", fn := fun _ => fun
  | [] => { results := [.lit (.bool false)], args := [] }
  | _ => none }
def AuditNamesWrongFalsely : Prop := auditNamesRow.holds Try.pinned (OpenSpec.ofChange auditNamesWrong)

/-- 'quorumlaw15.ReplicaNames': WHATEVER THE INPUT: true; the input reads as it did. -/
def replicaNamesSpec : ChangeSpec := { name := "replicaNames", fn := fun _ => fun
  | [] => { results := [.lit (.bool true)], args := [] }
  | _ => none }
def replicaNamesRow : OpenClaim := { program := "ytlfaalbkhfjpkaa", sum := "5c5c0cddb215691f0aec9d042f576ae3a0ade968db53f369204bc092dd1b9555", func := "quorum/quorumlaw15.ReplicaNames", spec := "replicaNames", apart := false }
def ReplicaNamesSaid : Prop := replicaNamesRow.holds Try.pinned (OpenSpec.ofChange replicaNamesSpec)

/-- ITS FALSE NEIGHBOUR: 'it returns false'. Refute it at one input. -/
def replicaNamesWrong : ChangeSpec := { name := "replicaNames", fn := fun _ => fun
  | [] => { results := [.lit (.bool false)], args := [] }
  | _ => none }
def ReplicaNamesWrongFalsely : Prop := replicaNamesRow.holds Try.pinned (OpenSpec.ofChange replicaNamesWrong)

/-- 'quorumlaw14.XferBegins': WHATEVER THE INPUT: true; the input reads as it did. -/
def xferBeginsSpec : ChangeSpec := { name := "xferBegins", fn := fun _ => fun
  | [d1, d2] => { results := [.lit (.bool true)], args := [d1, d2] }
  | _ => none }
def xferBeginsRow : OpenClaim := { program := "ytlfaalbkhfjpkaa", sum := "5c5c0cddb215691f0aec9d042f576ae3a0ade968db53f369204bc092dd1b9555", func := "quorum/quorumlaw14.XferBegins", spec := "xferBegins", recurses := true, apart := false }
def XferBeginsSaid : Prop := xferBeginsRow.holds Try.pinned (OpenSpec.ofChange xferBeginsSpec)

/-- ITS FALSE NEIGHBOUR: 'it returns false'. Refute it at one input. -/
def xferBeginsWrong : ChangeSpec := { name := "xferBegins", fn := fun _ => fun
  | [d1, d2] => { results := [.lit (.bool false)], args := [d1, d2] }
  | _ => none }
def XferBeginsWrongFalsely : Prop := xferBeginsRow.holds Try.pinned (OpenSpec.ofChange xferBeginsWrong)

/-- 'quorumlaw6.SnapPacks': WHATEVER THE INPUT: true; the input reads as it did. -/
def snapPacksSpec : ChangeSpec := { name := "snapPacks", fn := fun _ => fun
  | [d] => { results := [.lit (.bool true)], args := [d] }
  | _ => none }
def snapPacksRow : OpenClaim := { program := "ytlfaalbkhfjpkaa", sum := "5c5c0cddb215691f0aec9d042f576ae3a0ade968db53f369204bc092dd1b9555", func := "quorum/quorumlaw6.SnapPacks", spec := "snapPacks", unfollowed := true, recurses := true, apart := false }
def SnapPacksSaid : Prop := snapPacksRow.holds Try.pinned (OpenSpec.ofChange snapPacksSpec)

/-- ITS FALSE NEIGHBOUR: 'it returns false'. Refute it at one input. -/
def snapPacksWrong : ChangeSpec := { name := "snapPacks", fn := fun _ => fun
  | [d] => { results := [.lit (.bool false)], args := [d] }
  | _ => none }
def SnapPacksWrongFalsely : Prop := snapPacksRow.holds Try.pinned (OpenSpec.ofChange snapPacksWrong)

/- THE SECOND FORM. 'bulk': how many values and letters a reading holds, each counted each time it is reached (what is shared counts as often as it is met; a slice's spare places count too). A statement '..UptoSaid' is the law's where the arguments, and the package variables that the reading takes, are together of bulk at most 1048576: NARROWER than '..Said'. Prove '..Said' where nothing that the law and all that it calls make is longer than what came in: it says more and counts as full. Else prove '..UptoSaid'. A law counts once. -/
mutual
def uptoBulk {H : Type} : DataW H → Nat
  | .lit (.string bytes) => bytes.length + 1
  | .lit _ => 1
  | .nil => 1
  | .ptr d => uptoBulk d + 1
  | .slice elems spare => uptoBulkAll elems + uptoBulkAll spare + 1
  | .agg parts => uptoBulkAll parts + 1
  | .iface _ d => uptoBulk d + 1
  | .map entries => uptoBulkEntries entries + 1
  | .held _ => 1
def uptoBulkAll {H : Type} : List (DataW H) → Nat
  | [] => 0
  | d :: r => uptoBulk d + uptoBulkAll r
def uptoBulkEntries {H : Type} : List (Lit × DataW H) → Nat
  | [] => 0
  | x :: r => uptoBulkEntry x + uptoBulkEntries r
def uptoBulkEntry {H : Type} : Lit × DataW H → Nat
  | (.string bytes, d) => bytes.length + uptoBulk d + 1
  | (_, d) => uptoBulk d + 1
 end
def uptoSmall : (H : Type) → List (DataW H) → Bool := fun _ ds => decide (uptoBulkAll ds ≤ 1048576)
def OpenSpec.upto (s : _root_.Go.ChangeSpec) : _root_.Go.OpenSpec := { _root_.Go.OpenSpec.ofChange s with cond := some uptoSmall }

/-- 'quorumlaw5.DealNames', WHERE WHAT IT READS IS OF BULK AT MOST 1048576: true; the input reads as it did. -/
def dealNamesUptoRow : OpenClaim := { program := "ytlfaalbkhfjpkaa", sum := "5c5c0cddb215691f0aec9d042f576ae3a0ade968db53f369204bc092dd1b9555", func := "quorum/quorumlaw5.DealNames", spec := "dealNames", apart := false, narrowed := true }
def DealNamesUptoSaid : Prop := dealNamesUptoRow.holds Try.pinned (OpenSpec.upto dealNamesSpec)

/-- 'quorumlaw6.SnapNames', WHERE WHAT IT READS IS OF BULK AT MOST 1048576: true; the input reads as it did. -/
def snapNamesUptoRow : OpenClaim := { program := "ytlfaalbkhfjpkaa", sum := "5c5c0cddb215691f0aec9d042f576ae3a0ade968db53f369204bc092dd1b9555", func := "quorum/quorumlaw6.SnapNames", spec := "snapNames", apart := false, narrowed := true }
def SnapNamesUptoSaid : Prop := snapNamesUptoRow.holds Try.pinned (OpenSpec.upto snapNamesSpec)

/-- 'quorumlaw7.SessionNames', WHERE WHAT IT READS IS OF BULK AT MOST 1048576: true; the input reads as it did. -/
def sessionNamesUptoRow : OpenClaim := { program := "ytlfaalbkhfjpkaa", sum := "5c5c0cddb215691f0aec9d042f576ae3a0ade968db53f369204bc092dd1b9555", func := "quorum/quorumlaw7.SessionNames", spec := "sessionNames", apart := false, narrowed := true }
def SessionNamesUptoSaid : Prop := sessionNamesUptoRow.holds Try.pinned (OpenSpec.upto sessionNamesSpec)

/-- 'quorumlaw14.XferNames', WHERE WHAT IT READS IS OF BULK AT MOST 1048576: true; the input reads as it did. -/
def xferNamesUptoRow : OpenClaim := { program := "ytlfaalbkhfjpkaa", sum := "5c5c0cddb215691f0aec9d042f576ae3a0ade968db53f369204bc092dd1b9555", func := "quorum/quorumlaw14.XferNames", spec := "xferNames", apart := false, narrowed := true }
def XferNamesUptoSaid : Prop := xferNamesUptoRow.holds Try.pinned (OpenSpec.upto xferNamesSpec)

/-- 'quorumlaw17.AuditNames', WHERE WHAT IT READS IS OF BULK AT MOST 1048576: true; the input reads as it did. -/
def auditNamesUptoRow : OpenClaim := { program := "ytlfaalbkhfjpkaa", sum := "5c5c0cddb215691f0aec9d042f576ae3a0ade968db53f369204bc092dd1b9555", func := "quorum/quorumlaw17.AuditNames", spec := "auditNames", apart := false, narrowed := true }
def AuditNamesUptoSaid : Prop := auditNamesUptoRow.holds Try.pinned (OpenSpec.upto auditNamesSpec)

/-- 'quorumlaw15.ReplicaNames', WHERE WHAT IT READS IS OF BULK AT MOST 1048576: true; the input reads as it did. -/
def replicaNamesUptoRow : OpenClaim := { program := "ytlfaalbkhfjpkaa", sum := "5c5c0cddb215691f0aec9d042f576ae3a0ade968db53f369204bc092dd1b9555", func := "quorum/quorumlaw15.ReplicaNames", spec := "replicaNames", apart := false, narrowed := true }
def ReplicaNamesUptoSaid : Prop := replicaNamesUptoRow.holds Try.pinned (OpenSpec.upto replicaNamesSpec)

/-- 'quorumlaw14.XferBegins', WHERE WHAT IT READS IS OF BULK AT MOST 1048576: true; the input reads as it did. -/
def xferBeginsUptoRow : OpenClaim := { program := "ytlfaalbkhfjpkaa", sum := "5c5c0cddb215691f0aec9d042f576ae3a0ade968db53f369204bc092dd1b9555", func := "quorum/quorumlaw14.XferBegins", spec := "xferBegins", recurses := true, apart := false, narrowed := true }
def XferBeginsUptoSaid : Prop := xferBeginsUptoRow.holds Try.pinned (OpenSpec.upto xferBeginsSpec)

/-- 'quorumlaw6.SnapPacks', WHERE WHAT IT READS IS OF BULK AT MOST 1048576: true; the input reads as it did. -/
def snapPacksUptoRow : OpenClaim := { program := "ytlfaalbkhfjpkaa", sum := "5c5c0cddb215691f0aec9d042f576ae3a0ade968db53f369204bc092dd1b9555", func := "quorum/quorumlaw6.SnapPacks", spec := "snapPacks", unfollowed := true, recurses := true, apart := false, narrowed := true }
def SnapPacksUptoSaid : Prop := snapPacksUptoRow.holds Try.pinned (OpenSpec.upto snapPacksSpec)

end Rows
end Go.Proofs.Ytlfaalbkhfjpkaa
