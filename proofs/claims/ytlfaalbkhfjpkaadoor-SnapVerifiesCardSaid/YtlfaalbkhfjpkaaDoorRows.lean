/-
  NARROWER THAN 'FOR EVERY INPUT', by the rows' own cells (each row's printed sentence says how): SnapSums: laid · SnapTrees: laid · SnapVerifies: laid · XferSupplies: laid.
  DERIVED. THE GIVEN ROWS OF THIS SEAT. 4 by the template 'for every input the law returns true; each argument reads behind the call as it read before'; 0 by the template 'total and deterministic' (their statements: YtlfaalbkhfjpkaaDoorTotals.lean).
  GIVEN WITH THE SEED: the statements are not yours to turn. If you find one false, say at which input.
  Laid BY PROGRAM, IN A SANDBOX (cutbox-rows.mjs): the forced cells as the released guide's own fill.sh prints them over the translation 32001a166507f43a… (all of the seat's roots in one cut). By AI agents, Wed Nov 11 2026. No macro, syntax, notation, axiom, sorry.
-/
import Derived.Test.YtlfaalbkhfjpkaaDoorChecked
import GoSem.Claim
import GoSem.ClaimJoined
import GoSem.ClaimMapViews
import Derived.JoinedTies
import Derived.KernelRfl
namespace Go.Proofs.YtlfaalbkhfjpkaaDoor
/- THE CELL 'sum', in the pinned program and in every row, IS THE sha256 OF THE DUMP (.gsa) THAT YtlfaalbkhfjpkaaDoorProg.lean LOADS. Nothing in Lean hashes anything: it is a label: what it is worth is what the hold of that sum in a sandbox is worth. -/
noncomputable def Tryd.pinned : Pinned := { name := "ytlfaalbkhfjpkaadoor", sum := "32001a166507f43a72635314eb6d43d8c8f2c1896cea93dd534b0781d1c8fba7", checked := Tryd.checked }
namespace Rows
def none {H : Type} : Left H := { results := [], args := [] }

/- WHAT THE LISTED PACKAGE-LEVEL VARIABLES READ AS WHEN THE CALL BEGINS. Each datum BY PROGRAM (the guide's laid-datum.mjs) off the statement by which the dump's own 'gosem.cut.vars' lays the variable. In a bare row this is a premise. The card (YtlfaalbkhfjpkaaDoorCards.lean) ties it to the program's text. -/
def laid_quorum_snap_first {H : Type} : DataW H := .agg [.lit (.int .u32 1779033703), .lit (.int .u32 3144134277), .lit (.int .u32 1013904242), .lit (.int .u32 2773480762), .lit (.int .u32 1359893119), .lit (.int .u32 2600822924), .lit (.int .u32 528734635), .lit (.int .u32 1541459225)]

/-- 'quorumlaw6.SnapSums': WHATEVER THE INPUT: true; the input reads as it did. -/
def snapSumsSpec : ChangeSpec := { name := "snapSums", fn := fun _ => fun
  | [d1, d2] => { results := [.lit (.bool true)], args := [d1, d2] }
  | _ => none }
def snapSumsRow : OpenClaim := { program := "ytlfaalbkhfjpkaadoor", sum := "32001a166507f43a72635314eb6d43d8c8f2c1896cea93dd534b0781d1c8fba7", func := "quorum/quorumlaw6.SnapSums", spec := "snapSums", named := ["quorum/snap.first"], apart := false, laid := [("quorum/snap.first", laid_quorum_snap_first)] }
def SnapSumsSaid : Prop := snapSumsRow.holds Tryd.pinned (OpenSpec.ofChange snapSumsSpec)

/-- ITS FALSE NEIGHBOUR: 'it returns false'. Refute it at one input. -/
def snapSumsWrong : ChangeSpec := { name := "snapSums", fn := fun _ => fun
  | [d1, d2] => { results := [.lit (.bool false)], args := [d1, d2] }
  | _ => none }
def SnapSumsWrongFalsely : Prop := snapSumsRow.holds Tryd.pinned (OpenSpec.ofChange snapSumsWrong)

/-- 'quorumlaw6.SnapTrees': WHATEVER THE INPUT: true; the input reads as it did. -/
def snapTreesSpec : ChangeSpec := { name := "snapTrees", fn := fun _ => fun
  | [d1, d2, d3] => { results := [.lit (.bool true)], args := [d1, d2, d3] }
  | _ => none }
def snapTreesRow : OpenClaim := { program := "ytlfaalbkhfjpkaadoor", sum := "32001a166507f43a72635314eb6d43d8c8f2c1896cea93dd534b0781d1c8fba7", func := "quorum/quorumlaw6.SnapTrees", spec := "snapTrees", recurses := true, named := ["quorum/snap.first"], apart := false, laid := [("quorum/snap.first", laid_quorum_snap_first)] }
def SnapTreesSaid : Prop := snapTreesRow.holds Tryd.pinned (OpenSpec.ofChange snapTreesSpec)

/-- ITS FALSE NEIGHBOUR: 'it returns false'. Refute it at one input. -/
def snapTreesWrong : ChangeSpec := { name := "snapTrees", fn := fun _ => fun
  | [d1, d2, d3] => { results := [.lit (.bool false)], args := [d1, d2, d3] }
  | _ => none }
def SnapTreesWrongFalsely : Prop := snapTreesRow.holds Tryd.pinned (OpenSpec.ofChange snapTreesWrong)

/-- 'quorumlaw6.SnapVerifies': WHATEVER THE INPUT: true; the input reads as it did. -/
def snapVerifiesSpec : ChangeSpec := { name := "snapVerifies", fn := fun _ => fun
  | [d1, d2, d3, d4, d5] => { results := [.lit (.bool true)], args := [d1, d2, d3, d4, d5] }
  | _ => none }
def snapVerifiesRow : OpenClaim := { program := "ytlfaalbkhfjpkaadoor", sum := "32001a166507f43a72635314eb6d43d8c8f2c1896cea93dd534b0781d1c8fba7", func := "quorum/quorumlaw6.SnapVerifies", spec := "snapVerifies", recurses := true, named := ["quorum/snap.first"], apart := false, laid := [("quorum/snap.first", laid_quorum_snap_first)] }
def SnapVerifiesSaid : Prop := snapVerifiesRow.holds Tryd.pinned (OpenSpec.ofChange snapVerifiesSpec)

/-- ITS FALSE NEIGHBOUR: 'it returns false'. Refute it at one input. -/
def snapVerifiesWrong : ChangeSpec := { name := "snapVerifies", fn := fun _ => fun
  | [d1, d2, d3, d4, d5] => { results := [.lit (.bool false)], args := [d1, d2, d3, d4, d5] }
  | _ => none }
def SnapVerifiesWrongFalsely : Prop := snapVerifiesRow.holds Tryd.pinned (OpenSpec.ofChange snapVerifiesWrong)

/-- 'quorumlaw14.XferSupplies': WHATEVER THE INPUT: true; the input reads as it did. -/
def xferSuppliesSpec : ChangeSpec := { name := "xferSupplies", fn := fun _ => fun
  | [d1, d2, d3] => { results := [.lit (.bool true)], args := [d1, d2, d3] }
  | _ => none }
def xferSuppliesRow : OpenClaim := { program := "ytlfaalbkhfjpkaadoor", sum := "32001a166507f43a72635314eb6d43d8c8f2c1896cea93dd534b0781d1c8fba7", func := "quorum/quorumlaw14.XferSupplies", spec := "xferSupplies", recurses := true, named := ["quorum/snap.first"], apart := false, laid := [("quorum/snap.first", laid_quorum_snap_first)] }
def XferSuppliesSaid : Prop := xferSuppliesRow.holds Tryd.pinned (OpenSpec.ofChange xferSuppliesSpec)

/-- ITS FALSE NEIGHBOUR: 'it returns false'. Refute it at one input. -/
def xferSuppliesWrong : ChangeSpec := { name := "xferSupplies", fn := fun _ => fun
  | [d1, d2, d3] => { results := [.lit (.bool false)], args := [d1, d2, d3] }
  | _ => none }
def XferSuppliesWrongFalsely : Prop := xferSuppliesRow.holds Tryd.pinned (OpenSpec.ofChange xferSuppliesWrong)

/- THE SECOND FORM. 'bulk': how many values and letters a reading holds, each counted each time it is reached (what is shared counts as often as it is met; a slice's spare places count too). A statement '..UptoSaid' is the law's where the arguments, and the package variables that the reading takes, are together of bulk at most 1048576: NARROWER than '..Said'. Prove '..Said' where nothing that the law and all that it calls make is longer than what came in: it says more and counts as full. Else prove '..UptoSaid'. A law counts once. -/
mutual
def uptoBulk {H : Type} : DataW H → Nat
  | .lit (.string bytes) => bytes.length + 1
  | .lit _ => 1
  | .nil => 1
  | .ptr d => uptoBulk d + 1
  | .slice elems spare => uptoBulkAll elems + uptoBulkAll spare + 1
  | .agg parts => uptoBulkAll parts + 1
  | .iface _ d => uptoBulk d + 1
  | .map entries => uptoBulkEntries entries + 1
  | .held _ => 1
def uptoBulkAll {H : Type} : List (DataW H) → Nat
  | [] => 0
  | d :: r => uptoBulk d + uptoBulkAll r
def uptoBulkEntries {H : Type} : List (Lit × DataW H) → Nat
  | [] => 0
  | x :: r => uptoBulkEntry x + uptoBulkEntries r
def uptoBulkEntry {H : Type} : Lit × DataW H → Nat
  | (.string bytes, d) => bytes.length + uptoBulk d + 1
  | (_, d) => uptoBulk d + 1
 end
def uptoSmall : (H : Type) → List (DataW H) → Bool := fun _ ds => decide (uptoBulkAll ds ≤ 1048576)
def OpenSpec.upto (s : _root_.Go.ChangeSpec) : _root_.Go.OpenSpec := { _root_.Go.OpenSpec.ofChange s with cond := some uptoSmall }

/-- 'quorumlaw6.SnapSums', WHERE WHAT IT READS IS OF BULK AT MOST 1048576: true; the input reads as it did. -/
def snapSumsUptoRow : OpenClaim := { program := "ytlfaalbkhfjpkaadoor", sum := "32001a166507f43a72635314eb6d43d8c8f2c1896cea93dd534b0781d1c8fba7", func := "quorum/quorumlaw6.SnapSums", spec := "snapSums", named := ["quorum/snap.first"], apart := false, laid := [("quorum/snap.first", laid_quorum_snap_first)], narrowed := true }
def SnapSumsUptoSaid : Prop := snapSumsUptoRow.holds Tryd.pinned (OpenSpec.upto snapSumsSpec)

/-- 'quorumlaw6.SnapTrees', WHERE WHAT IT READS IS OF BULK AT MOST 1048576: true; the input reads as it did. -/
def snapTreesUptoRow : OpenClaim := { program := "ytlfaalbkhfjpkaadoor", sum := "32001a166507f43a72635314eb6d43d8c8f2c1896cea93dd534b0781d1c8fba7", func := "quorum/quorumlaw6.SnapTrees", spec := "snapTrees", recurses := true, named := ["quorum/snap.first"], apart := false, laid := [("quorum/snap.first", laid_quorum_snap_first)], narrowed := true }
def SnapTreesUptoSaid : Prop := snapTreesUptoRow.holds Tryd.pinned (OpenSpec.upto snapTreesSpec)

/-- 'quorumlaw6.SnapVerifies', WHERE WHAT IT READS IS OF BULK AT MOST 1048576: true; the input reads as it did. -/
def snapVerifiesUptoRow : OpenClaim := { program := "ytlfaalbkhfjpkaadoor", sum := "32001a166507f43a72635314eb6d43d8c8f2c1896cea93dd534b0781d1c8fba7", func := "quorum/quorumlaw6.SnapVerifies", spec := "snapVerifies", recurses := true, named := ["quorum/snap.first"], apart := false, laid := [("quorum/snap.first", laid_quorum_snap_first)], narrowed := true }
def SnapVerifiesUptoSaid : Prop := snapVerifiesUptoRow.holds Tryd.pinned (OpenSpec.upto snapVerifiesSpec)

/-- 'quorumlaw14.XferSupplies', WHERE WHAT IT READS IS OF BULK AT MOST 1048576: true; the input reads as it did. -/
def xferSuppliesUptoRow : OpenClaim := { program := "ytlfaalbkhfjpkaadoor", sum := "32001a166507f43a72635314eb6d43d8c8f2c1896cea93dd534b0781d1c8fba7", func := "quorum/quorumlaw14.XferSupplies", spec := "xferSupplies", recurses := true, named := ["quorum/snap.first"], apart := false, laid := [("quorum/snap.first", laid_quorum_snap_first)], narrowed := true }
def XferSuppliesUptoSaid : Prop := xferSuppliesUptoRow.holds Tryd.pinned (OpenSpec.upto xferSuppliesSpec)

end Rows
end Go.Proofs.YtlfaalbkhfjpkaaDoor
