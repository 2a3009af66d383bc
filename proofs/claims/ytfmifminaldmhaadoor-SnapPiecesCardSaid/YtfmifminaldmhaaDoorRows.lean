/-
  NARROWER THAN 'FOR EVERY INPUT', by the rows' own cells (each row's printed sentence says how): SnapUnpacks: laid · DealPacks: laid · XferNobody: laid · SnapPieces: laid · SnapRound: laid · SnapForm: laid.
  DERIVED. THE GIVEN ROWS OF THIS SEAT. 6 by the template 'for every input the law returns true; each argument reads behind the call as it read before'; 0 by the template 'total and deterministic' (their statements: YtfmifminaldmhaaDoorTotals.lean).
  GIVEN WITH THE SEED: the statements are not yours to turn. If you find one false, say at which input.
  Laid BY PROGRAM, IN A SANDBOX (cutbox-rows.mjs): the forced cells as the released guide's own fill.sh prints them over the translation e73cd9f13175a2ee… (all of the seat's roots in one cut). By AI agents, Wed Nov 11 2026. No macro, syntax, notation, axiom, sorry.
-/
import Derived.Test.YtfmifminaldmhaaDoorChecked
import GoSem.PinnedTables
import GoSem.Claim
import GoSem.ClaimJoined
import GoSem.ClaimMapViews
import Derived.JoinedTies
import Derived.KernelRfl
namespace Go.Proofs.YtfmifminaldmhaaDoor
/- THE CELL 'sum', in the pinned program and in every row, IS THE sha256 OF THE DUMP (.gsa) THAT YtfmifminaldmhaaDoorProg.lean LOADS. Nothing in Lean hashes anything: it is a label: what it is worth is what the hold of that sum in a sandbox is worth. -/
noncomputable def Tryd.pinned : Pinned := { name := "ytfmifminaldmhaadoor", sum := "e73cd9f13175a2ee0bcafea8e63af47ff018bfdd84055f9543f6b6aa8f368541", checked := Tryd.checked }
namespace Rows
def none {H : Type} : Left H := { results := [], args := [] }

/- WHAT THE LISTED PACKAGE-LEVEL VARIABLES READ AS WHEN THE CALL BEGINS. Each datum BY PROGRAM (the guide's laid-datum.mjs) off the statement by which the dump's own 'gosem.cut.vars' lays the variable. In a bare row this is a premise. The card (YtfmifminaldmhaaDoorCards.lean) ties it to the program's text. -/
def laid_unicode_utf8_acceptRanges {H : Type} : DataW H := .agg [.agg [.lit (.int .u8 128), .lit (.int .u8 191)], .agg [.lit (.int .u8 160), .lit (.int .u8 191)], .agg [.lit (.int .u8 128), .lit (.int .u8 159)], .agg [.lit (.int .u8 144), .lit (.int .u8 191)], .agg [.lit (.int .u8 128), .lit (.int .u8 143)], .agg [.lit (.int .u8 0), .lit (.int .u8 0)], .agg [.lit (.int .u8 0), .lit (.int .u8 0)], .agg [.lit (.int .u8 0), .lit (.int .u8 0)], .agg [.lit (.int .u8 0), .lit (.int .u8 0)], .agg [.lit (.int .u8 0), .lit (.int .u8 0)], .agg [.lit (.int .u8 0), .lit (.int .u8 0)], .agg [.lit (.int .u8 0), .lit (.int .u8 0)], .agg [.lit (.int .u8 0), .lit (.int .u8 0)], .agg [.lit (.int .u8 0), .lit (.int .u8 0)], .agg [.lit (.int .u8 0), .lit (.int .u8 0)], .agg [.lit (.int .u8 0), .lit (.int .u8 0)]]
def laid_errors_errorType {H : Type} : DataW H := .iface "internal/reflectlite.rtype" (.agg [.ptr (.lit (.string [101, 114, 114, 111, 114]))])
/-- One of Go's own tables, pinned by name: the form's constant. -/
def laid_unicode_utf8_first : DataW Unit := Go.Pinned.utf8First
def laid_quorum_deal_fields {H : Type} : DataW H := .agg [.lit (.int .i64 0), .lit (.int .i64 18), .lit (.int .i64 2), .lit (.int .i64 22), .lit (.int .i64 127), .lit (.int .i64 17), .lit (.int .i64 17), .lit (.int .i64 17), .lit (.int .i64 17), .lit (.int .i64 17), .lit (.int .i64 17), .lit (.int .i64 1), .lit (.int .i64 2), .lit (.int .i64 1)]
def laid_quorum_snap_first {H : Type} : DataW H := .agg [.lit (.int .u32 1779033703), .lit (.int .u32 3144134277), .lit (.int .u32 1013904242), .lit (.int .u32 2773480762), .lit (.int .u32 1359893119), .lit (.int .u32 2600822924), .lit (.int .u32 528734635), .lit (.int .u32 1541459225)]

/-- 'quorumlaw6.SnapUnpacks': WHATEVER THE INPUT: true; the input reads as it did. -/
def snapUnpacksSpec : ChangeSpec := { name := "snapUnpacks", fn := fun _ => fun
  | [d] => { results := [.lit (.bool true)], args := [d] }
  | _ => none }
def snapUnpacksRow : OpenClaim := { program := "ytfmifminaldmhaadoor", sum := "e73cd9f13175a2ee0bcafea8e63af47ff018bfdd84055f9543f6b6aa8f368541", func := "quorum/quorumlaw6.SnapUnpacks", spec := "snapUnpacks", inPlace := ["internal/reflectlite.ValueOf", "(internal/reflectlite.Value).Type", "(internal/reflectlite.Value).IsNil", "internal/reflectlite.TypeOf", "(internal/reflectlite.Value).Elem", "(internal/reflectlite.Value).Set"], unfollowed := true, recurses := true, named := ["unicode/utf8.first", "unicode/utf8.acceptRanges", "errors.errorType"], apart := false, laid := [("unicode/utf8.acceptRanges", laid_unicode_utf8_acceptRanges), ("errors.errorType", laid_errors_errorType), ("unicode/utf8.first", laid_unicode_utf8_first)] }
def SnapUnpacksSaid : Prop := snapUnpacksRow.holds Tryd.pinned (OpenSpec.ofChange snapUnpacksSpec)

/-- ITS FALSE NEIGHBOUR: 'it returns false'. Refute it at one input. -/
def snapUnpacksWrong : ChangeSpec := { name := "snapUnpacks", fn := fun _ => fun
  | [d] => { results := [.lit (.bool false)], args := [d] }
  | _ => none }
def SnapUnpacksWrongFalsely : Prop := snapUnpacksRow.holds Tryd.pinned (OpenSpec.ofChange snapUnpacksWrong)

/-- 'quorumlaw5.DealPacks': WHATEVER THE INPUT: true; the input reads as it did. -/
def dealPacksSpec : ChangeSpec := { name := "dealPacks", fn := fun _ => fun
  | [d1, d2] => { results := [.lit (.bool true)], args := [d1, d2] }
  | _ => none }
def dealPacksRow : OpenClaim := { program := "ytfmifminaldmhaadoor", sum := "e73cd9f13175a2ee0bcafea8e63af47ff018bfdd84055f9543f6b6aa8f368541", func := "quorum/quorumlaw5.DealPacks", spec := "dealPacks", inPlace := ["internal/reflectlite.ValueOf", "(internal/reflectlite.Value).Type", "(internal/reflectlite.Value).IsNil", "internal/reflectlite.TypeOf", "(internal/reflectlite.Value).Elem", "(internal/reflectlite.Value).Set"], unfollowed := true, recurses := true, named := ["quorum/deal.fields", "unicode/utf8.first", "unicode/utf8.acceptRanges", "errors.errorType"], apart := false, laid := [("unicode/utf8.acceptRanges", laid_unicode_utf8_acceptRanges), ("errors.errorType", laid_errors_errorType), ("quorum/deal.fields", laid_quorum_deal_fields), ("unicode/utf8.first", laid_unicode_utf8_first)] }
def DealPacksSaid : Prop := dealPacksRow.holds Tryd.pinned (OpenSpec.ofChange dealPacksSpec)

/-- ITS FALSE NEIGHBOUR: 'it returns false'. Refute it at one input. -/
def dealPacksWrong : ChangeSpec := { name := "dealPacks", fn := fun _ => fun
  | [d1, d2] => { results := [.lit (.bool false)], args := [d1, d2] }
  | _ => none }
def DealPacksWrongFalsely : Prop := dealPacksRow.holds Tryd.pinned (OpenSpec.ofChange dealPacksWrong)

/-- 'quorumlaw14.XferNobody': WHATEVER THE INPUT: true; the input reads as it did. -/
def xferNobodySpec : ChangeSpec := { name := "xferNobody", fn := fun _ => fun
  | [d1, d2] => { results := [.lit (.bool true)], args := [d1, d2] }
  | _ => none }
def xferNobodyRow : OpenClaim := { program := "ytfmifminaldmhaadoor", sum := "e73cd9f13175a2ee0bcafea8e63af47ff018bfdd84055f9543f6b6aa8f368541", func := "quorum/quorumlaw14.XferNobody", spec := "xferNobody", inPlace := ["internal/reflectlite.TypeOf", "internal/reflectlite.ValueOf", "(internal/reflectlite.Value).Type", "(internal/reflectlite.Value).IsNil", "(internal/reflectlite.Value).Elem", "(internal/reflectlite.Value).Set"], unfollowed := true, recurses := true, named := ["quorum/snap.first", "errors.errorType"], apart := false, laid := [("errors.errorType", laid_errors_errorType), ("quorum/snap.first", laid_quorum_snap_first)] }
def XferNobodySaid : Prop := xferNobodyRow.holds Tryd.pinned (OpenSpec.ofChange xferNobodySpec)

/-- ITS FALSE NEIGHBOUR: 'it returns false'. Refute it at one input. -/
def xferNobodyWrong : ChangeSpec := { name := "xferNobody", fn := fun _ => fun
  | [d1, d2] => { results := [.lit (.bool false)], args := [d1, d2] }
  | _ => none }
def XferNobodyWrongFalsely : Prop := xferNobodyRow.holds Tryd.pinned (OpenSpec.ofChange xferNobodyWrong)

/-- 'quorumlaw6.SnapPieces': WHATEVER THE INPUT: true; the input reads as it did. -/
def snapPiecesSpec : ChangeSpec := { name := "snapPieces", fn := fun _ => fun
  | [d1, d2, d3] => { results := [.lit (.bool true)], args := [d1, d2, d3] }
  | _ => none }
def snapPiecesRow : OpenClaim := { program := "ytfmifminaldmhaadoor", sum := "e73cd9f13175a2ee0bcafea8e63af47ff018bfdd84055f9543f6b6aa8f368541", func := "quorum/quorumlaw6.SnapPieces", spec := "snapPieces", inPlace := ["internal/reflectlite.ValueOf", "(internal/reflectlite.Value).Type", "(internal/reflectlite.Value).IsNil", "internal/reflectlite.TypeOf", "(internal/reflectlite.Value).Elem", "(internal/reflectlite.Value).Set"], unfollowed := true, recurses := true, named := ["quorum/snap.first", "unicode/utf8.first", "unicode/utf8.acceptRanges", "errors.errorType"], apart := false, laid := [("unicode/utf8.acceptRanges", laid_unicode_utf8_acceptRanges), ("errors.errorType", laid_errors_errorType), ("quorum/snap.first", laid_quorum_snap_first), ("unicode/utf8.first", laid_unicode_utf8_first)] }
def SnapPiecesSaid : Prop := snapPiecesRow.holds Tryd.pinned (OpenSpec.ofChange snapPiecesSpec)

/-- ITS FALSE NEIGHBOUR: 'it returns false'. Refute it at one input. -/
def snapPiecesWrong : ChangeSpec := { name := "snapPieces", fn := fun _ => fun
  | [d1, d2, d3] => { results := [.lit (.bool false)], args := [d1, d2, d3] }
  | _ => none }
def SnapPiecesWrongFalsely : Prop := snapPiecesRow.holds Tryd.pinned (OpenSpec.ofChange snapPiecesWrong)

/-- 'quorumlaw6.SnapRound': WHATEVER THE INPUT: true; the input reads as it did. -/
def snapRoundSpec : ChangeSpec := { name := "snapRound", fn := fun _ => fun
  | [d] => { results := [.lit (.bool true)], args := [d] }
  | _ => none }
def snapRoundRow : OpenClaim := { program := "ytfmifminaldmhaadoor", sum := "e73cd9f13175a2ee0bcafea8e63af47ff018bfdd84055f9543f6b6aa8f368541", func := "quorum/quorumlaw6.SnapRound", spec := "snapRound", inPlace := ["internal/reflectlite.ValueOf", "(internal/reflectlite.Value).Type", "(internal/reflectlite.Value).IsNil", "internal/reflectlite.TypeOf", "(internal/reflectlite.Value).Elem", "(internal/reflectlite.Value).Set"], unfollowed := true, recurses := true, named := ["quorum/snap.first", "unicode/utf8.first", "unicode/utf8.acceptRanges", "errors.errorType"], apart := false, laid := [("unicode/utf8.acceptRanges", laid_unicode_utf8_acceptRanges), ("errors.errorType", laid_errors_errorType), ("quorum/snap.first", laid_quorum_snap_first), ("unicode/utf8.first", laid_unicode_utf8_first)] }
def SnapRoundSaid : Prop := snapRoundRow.holds Tryd.pinned (OpenSpec.ofChange snapRoundSpec)

/-- ITS FALSE NEIGHBOUR: 'it returns false'. Refute it at one input. -/
def snapRoundWrong : ChangeSpec := { name := "snapRound", fn := fun _ => fun
  | [d] => { results := [.lit (.bool false)], args := [d] }
  | _ => none }
def SnapRoundWrongFalsely : Prop := snapRoundRow.holds Tryd.pinned (OpenSpec.ofChange snapRoundWrong)

/-- 'quorumlaw6.SnapForm': WHATEVER THE INPUT: true; the input reads as it did. -/
def snapFormSpec : ChangeSpec := { name := "snapForm", fn := fun _ => fun
  | [d] => { results := [.lit (.bool true)], args := [d] }
  | _ => none }
def snapFormRow : OpenClaim := { program := "ytfmifminaldmhaadoor", sum := "e73cd9f13175a2ee0bcafea8e63af47ff018bfdd84055f9543f6b6aa8f368541", func := "quorum/quorumlaw6.SnapForm", spec := "snapForm", inPlace := ["internal/reflectlite.ValueOf", "(internal/reflectlite.Value).Type", "(internal/reflectlite.Value).IsNil", "internal/reflectlite.TypeOf", "(internal/reflectlite.Value).Elem", "(internal/reflectlite.Value).Set"], unfollowed := true, recurses := true, named := ["quorum/snap.first", "unicode/utf8.first", "unicode/utf8.acceptRanges", "errors.errorType"], apart := false, laid := [("unicode/utf8.acceptRanges", laid_unicode_utf8_acceptRanges), ("errors.errorType", laid_errors_errorType), ("quorum/snap.first", laid_quorum_snap_first), ("unicode/utf8.first", laid_unicode_utf8_first)] }
def SnapFormSaid : Prop := snapFormRow.holds Tryd.pinned (OpenSpec.ofChange snapFormSpec)

/-- ITS FALSE NEIGHBOUR: 'it returns false'. Refute it at one input. -/
def snapFormWrong : ChangeSpec := { name := "snapForm", fn := fun _ => fun
  | [d] => { results := [.lit (.bool false)], args := [d] }
  | _ => none }
def SnapFormWrongFalsely : Prop := snapFormRow.holds Tryd.pinned (OpenSpec.ofChange snapFormWrong)

/- THE SECOND FORM. 'bulk': how many values and letters a reading holds, each counted each time it is reached (what is shared counts as often as it is met; a slice's spare places count too). A statement '..UptoSaid' is the law's where the arguments, and the package variables that the reading takes, are together of bulk at most 1048576: NARROWER than '..Said'. Prove '..Said' where nothing that the law and all that it calls make is longer than what came in: it says more and counts as full. Else prove '..UptoSaid'. A law counts once. -/
mutual
def uptoBulk {H : Type} : DataW H → Nat
  | .lit (.string bytes) => bytes.length + 1
  | .lit _ => 1
  | .nil => 1
  | .ptr d => uptoBulk d + 1
  | .slice elems spare => uptoBulkAll elems + uptoBulkAll spare + 1
  | .agg parts => uptoBulkAll parts + 1
  | .iface _ d => uptoBulk d + 1
  | .map entries => uptoBulkEntries entries + 1
  | .held _ => 1
def uptoBulkAll {H : Type} : List (DataW H) → Nat
  | [] => 0
  | d :: r => uptoBulk d + uptoBulkAll r
def uptoBulkEntries {H : Type} : List (Lit × DataW H) → Nat
  | [] => 0
  | x :: r => uptoBulkEntry x + uptoBulkEntries r
def uptoBulkEntry {H : Type} : Lit × DataW H → Nat
  | (.string bytes, d) => bytes.length + uptoBulk d + 1
  | (_, d) => uptoBulk d + 1
 end
def uptoSmall : (H : Type) → List (DataW H) → Bool := fun _ ds => decide (uptoBulkAll ds ≤ 1048576)
def OpenSpec.upto (s : _root_.Go.ChangeSpec) : _root_.Go.OpenSpec := { _root_.Go.OpenSpec.ofChange s with cond := some uptoSmall }

/-- 'quorumlaw6.SnapUnpacks', WHERE WHAT IT READS IS OF BULK AT MOST 1048576: true; the input reads as it did. -/
def snapUnpacksUptoRow : OpenClaim := { program := "ytfmifminaldmhaadoor", sum := "e73cd9f13175a2ee0bcafea8e63af47ff018bfdd84055f9543f6b6aa8f368541", func := "quorum/quorumlaw6.SnapUnpacks", spec := "snapUnpacks", inPlace := ["internal/reflectlite.ValueOf", "(internal/reflectlite.Value).Type", "(internal/reflectlite.Value).IsNil", "internal/reflectlite.TypeOf", "(internal/reflectlite.Value).Elem", "(internal/reflectlite.Value).Set"], unfollowed := true, recurses := true, named := ["unicode/utf8.first", "unicode/utf8.acceptRanges", "errors.errorType"], apart := false, laid := [("unicode/utf8.acceptRanges", laid_unicode_utf8_acceptRanges), ("errors.errorType", laid_errors_errorType), ("unicode/utf8.first", laid_unicode_utf8_first)], narrowed := true }
def SnapUnpacksUptoSaid : Prop := snapUnpacksUptoRow.holds Tryd.pinned (OpenSpec.upto snapUnpacksSpec)

/-- 'quorumlaw5.DealPacks', WHERE WHAT IT READS IS OF BULK AT MOST 1048576: true; the input reads as it did. -/
def dealPacksUptoRow : OpenClaim := { program := "ytfmifminaldmhaadoor", sum := "e73cd9f13175a2ee0bcafea8e63af47ff018bfdd84055f9543f6b6aa8f368541", func := "quorum/quorumlaw5.DealPacks", spec := "dealPacks", inPlace := ["internal/reflectlite.ValueOf", "(internal/reflectlite.Value).Type", "(internal/reflectlite.Value).IsNil", "internal/reflectlite.TypeOf", "(internal/reflectlite.Value).Elem", "(internal/reflectlite.Value).Set"], unfollowed := true, recurses := true, named := ["quorum/deal.fields", "unicode/utf8.first", "unicode/utf8.acceptRanges", "errors.errorType"], apart := false, laid := [("unicode/utf8.acceptRanges", laid_unicode_utf8_acceptRanges), ("errors.errorType", laid_errors_errorType), ("quorum/deal.fields", laid_quorum_deal_fields), ("unicode/utf8.first", laid_unicode_utf8_first)], narrowed := true }
def DealPacksUptoSaid : Prop := dealPacksUptoRow.holds Tryd.pinned (OpenSpec.upto dealPacksSpec)

/-- 'quorumlaw14.XferNobody', WHERE WHAT IT READS IS OF BULK AT MOST 1048576: true; the input reads as it did. -/
def xferNobodyUptoRow : OpenClaim := { program := "ytfmifminaldmhaadoor", sum := "e73cd9f13175a2ee0bcafea8e63af47ff018bfdd84055f9543f6b6aa8f368541", func := "quorum/quorumlaw14.XferNobody", spec := "xferNobody", inPlace := ["internal/reflectlite.TypeOf", "internal/reflectlite.ValueOf", "(internal/reflectlite.Value).Type", "(internal/reflectlite.Value).IsNil", "(internal/reflectlite.Value).Elem", "(internal/reflectlite.Value).Set"], unfollowed := true, recurses := true, named := ["quorum/snap.first", "errors.errorType"], apart := false, laid := [("errors.errorType", laid_errors_errorType), ("quorum/snap.first", laid_quorum_snap_first)], narrowed := true }
def XferNobodyUptoSaid : Prop := xferNobodyUptoRow.holds Tryd.pinned (OpenSpec.upto xferNobodySpec)

/-- 'quorumlaw6.SnapPieces', WHERE WHAT IT READS IS OF BULK AT MOST 1048576: true; the input reads as it did. -/
def snapPiecesUptoRow : OpenClaim := { program := "ytfmifminaldmhaadoor", sum := "e73cd9f13175a2ee0bcafea8e63af47ff018bfdd84055f9543f6b6aa8f368541", func := "quorum/quorumlaw6.SnapPieces", spec := "snapPieces", inPlace := ["internal/reflectlite.ValueOf", "(internal/reflectlite.Value).Type", "(internal/reflectlite.Value).IsNil", "internal/reflectlite.TypeOf", "(internal/reflectlite.Value).Elem", "(internal/reflectlite.Value).Set"], unfollowed := true, recurses := true, named := ["quorum/snap.first", "unicode/utf8.first", "unicode/utf8.acceptRanges", "errors.errorType"], apart := false, laid := [("unicode/utf8.acceptRanges", laid_unicode_utf8_acceptRanges), ("errors.errorType", laid_errors_errorType), ("quorum/snap.first", laid_quorum_snap_first), ("unicode/utf8.first", laid_unicode_utf8_first)], narrowed := true }
def SnapPiecesUptoSaid : Prop := snapPiecesUptoRow.holds Tryd.pinned (OpenSpec.upto snapPiecesSpec)

/-- 'quorumlaw6.SnapRound', WHERE WHAT IT READS IS OF BULK AT MOST 1048576: true; the input reads as it did. -/
def snapRoundUptoRow : OpenClaim := { program := "ytfmifminaldmhaadoor", sum := "e73cd9f13175a2ee0bcafea8e63af47ff018bfdd84055f9543f6b6aa8f368541", func := "quorum/quorumlaw6.SnapRound", spec := "snapRound", inPlace := ["internal/reflectlite.ValueOf", "(internal/reflectlite.Value).Type", "(internal/reflectlite.Value).IsNil", "internal/reflectlite.TypeOf", "(internal/reflectlite.Value).Elem", "(internal/reflectlite.Value).Set"], unfollowed := true, recurses := true, named := ["quorum/snap.first", "unicode/utf8.first", "unicode/utf8.acceptRanges", "errors.errorType"], apart := false, laid := [("unicode/utf8.acceptRanges", laid_unicode_utf8_acceptRanges), ("errors.errorType", laid_errors_errorType), ("quorum/snap.first", laid_quorum_snap_first), ("unicode/utf8.first", laid_unicode_utf8_first)], narrowed := true }
def SnapRoundUptoSaid : Prop := snapRoundUptoRow.holds Tryd.pinned (OpenSpec.upto snapRoundSpec)

/-- 'quorumlaw6.SnapForm', WHERE WHAT IT READS IS OF BULK AT MOST 1048576: true; the input reads as it did. -/
def snapFormUptoRow : OpenClaim := { program := "ytfmifminaldmhaadoor", sum := "e73cd9f13175a2ee0bcafea8e63af47ff018bfdd84055f9543f6b6aa8f368541", func := "quorum/quorumlaw6.SnapForm", spec := "snapForm", inPlace := ["internal/reflectlite.ValueOf", "(internal/reflectlite.Value).Type", "(internal/reflectlite.Value).IsNil", "internal/reflectlite.TypeOf", "(internal/reflectlite.Value).Elem", "(internal/reflectlite.Value).Set"], unfollowed := true, recurses := true, named := ["quorum/snap.first", "unicode/utf8.first", "unicode/utf8.acceptRanges", "errors.errorType"], apart := false, laid := [("unicode/utf8.acceptRanges", laid_unicode_utf8_acceptRanges), ("errors.errorType", laid_errors_errorType), ("quorum/snap.first", laid_quorum_snap_first), ("unicode/utf8.first", laid_unicode_utf8_first)], narrowed := true }
def SnapFormUptoSaid : Prop := snapFormUptoRow.holds Tryd.pinned (OpenSpec.upto snapFormSpec)

end Rows
end Go.Proofs.YtfmifminaldmhaaDoor
