/-
  DERIVED. GIVEN WITH THE SEED: THE CARDS: each row of YtfmifminaldmhaaDoorRows.lean that lists a variable, with what it lists TIED to the program's text (the seventh form; the later family's looks); each row that meets fmt, with fmt's text TOLD by the authors' own Lean function (tested against real Go, not proved from fmt's source: count such statements apart). THE CARD IS WHAT COUNTS. Prove the row's statement (the work); the ties are given (YtfmifminaldmhaaDoorTie.lean); close each card by the builder's one call (the guide's Derived/Test/ToyasCard.lean, 'card_holds'). Laid BY PROGRAM, IN A SANDBOX (cutbox-door.mjs). By AI agents, Wed Nov 11 2026. No macro, syntax, notation, axiom, sorry.
-/
import Derived.Test.YtfmifminaldmhaaDoorRows
import GoSem.ClaimSeven
namespace Go.Proofs.YtfmifminaldmhaaDoor
namespace Rows

/-- THE TIED CARD OF 'quorumlaw6.SnapUnpacks'. -/
def snapUnpacksCard : Claim7 := { stood := { row := snapUnpacksRow, standIns := [], harness := (true, "77e1b22831a35bd0d446b0f3c563a4e99d51abf6302884b5c4f6e054ade3e84a"), looks := true }, kinds := [], alts := [], laidByText := true, laidKinds := [.data, .handle, .pinned], laidTests := true, laidLooks := .later }
def SnapUnpacksCardSaid : Prop := Claim7.holds Tryd.pinned (.plain (OpenSpec.ofChange snapUnpacksSpec)) snapUnpacksCard

/-- THE TIED CARD OF 'quorumlaw5.DealPacks'. -/
def dealPacksCard : Claim7 := { stood := { row := dealPacksRow, standIns := [], harness := (true, "77e1b22831a35bd0d446b0f3c563a4e99d51abf6302884b5c4f6e054ade3e84a"), looks := true }, kinds := [], alts := [], laidByText := true, laidKinds := [.data, .handle, .data, .pinned], laidTests := true, laidLooks := .later }
def DealPacksCardSaid : Prop := Claim7.holds Tryd.pinned (.plain (OpenSpec.ofChange dealPacksSpec)) dealPacksCard

/-- THE TIED CARD OF 'quorumlaw14.XferNobody'. -/
def xferNobodyCard : Claim7 := { stood := { row := xferNobodyRow, standIns := [], harness := (true, "77e1b22831a35bd0d446b0f3c563a4e99d51abf6302884b5c4f6e054ade3e84a"), looks := true }, kinds := [], alts := [], laidByText := true, laidKinds := [.handle, .data], laidTests := true, laidLooks := .later }
def XferNobodyCardSaid : Prop := Claim7.holds Tryd.pinned (.plain (OpenSpec.ofChange xferNobodySpec)) xferNobodyCard

/-- THE TIED CARD OF 'quorumlaw6.SnapPieces'. -/
def snapPiecesCard : Claim7 := { stood := { row := snapPiecesRow, standIns := [], harness := (true, "77e1b22831a35bd0d446b0f3c563a4e99d51abf6302884b5c4f6e054ade3e84a"), looks := true }, kinds := [], alts := [], laidByText := true, laidKinds := [.data, .handle, .data, .pinned], laidTests := true, laidLooks := .later }
def SnapPiecesCardSaid : Prop := Claim7.holds Tryd.pinned (.plain (OpenSpec.ofChange snapPiecesSpec)) snapPiecesCard

/-- THE TIED CARD OF 'quorumlaw6.SnapRound'. -/
def snapRoundCard : Claim7 := { stood := { row := snapRoundRow, standIns := [], harness := (true, "77e1b22831a35bd0d446b0f3c563a4e99d51abf6302884b5c4f6e054ade3e84a"), looks := true }, kinds := [], alts := [], laidByText := true, laidKinds := [.data, .handle, .data, .pinned], laidTests := true, laidLooks := .later }
def SnapRoundCardSaid : Prop := Claim7.holds Tryd.pinned (.plain (OpenSpec.ofChange snapRoundSpec)) snapRoundCard

/-- THE TIED CARD OF 'quorumlaw6.SnapForm'. -/
def snapFormCard : Claim7 := { stood := { row := snapFormRow, standIns := [], harness := (true, "77e1b22831a35bd0d446b0f3c563a4e99d51abf6302884b5c4f6e054ade3e84a"), looks := true }, kinds := [], alts := [], laidByText := true, laidKinds := [.data, .handle, .data, .pinned], laidTests := true, laidLooks := .later }
def SnapFormCardSaid : Prop := Claim7.holds Tryd.pinned (.plain (OpenSpec.ofChange snapFormSpec)) snapFormCard

/-- THE SECOND FORM's CARD OF 'quorumlaw6.SnapUnpacks'. -/
def snapUnpacksUptoCard : Claim7 := { stood := { row := snapUnpacksUptoRow, standIns := [], harness := (true, "77e1b22831a35bd0d446b0f3c563a4e99d51abf6302884b5c4f6e054ade3e84a"), looks := true }, kinds := [], alts := [], laidByText := true, laidKinds := [.data, .handle, .pinned], laidTests := true, laidLooks := .later }
def SnapUnpacksUptoCardSaid : Prop := Claim7.holds Tryd.pinned (.plain (OpenSpec.upto snapUnpacksSpec)) snapUnpacksUptoCard

/-- THE SECOND FORM's CARD OF 'quorumlaw5.DealPacks'. -/
def dealPacksUptoCard : Claim7 := { stood := { row := dealPacksUptoRow, standIns := [], harness := (true, "77e1b22831a35bd0d446b0f3c563a4e99d51abf6302884b5c4f6e054ade3e84a"), looks := true }, kinds := [], alts := [], laidByText := true, laidKinds := [.data, .handle, .data, .pinned], laidTests := true, laidLooks := .later }
def DealPacksUptoCardSaid : Prop := Claim7.holds Tryd.pinned (.plain (OpenSpec.upto dealPacksSpec)) dealPacksUptoCard

/-- THE SECOND FORM's CARD OF 'quorumlaw14.XferNobody'. -/
def xferNobodyUptoCard : Claim7 := { stood := { row := xferNobodyUptoRow, standIns := [], harness := (true, "77e1b22831a35bd0d446b0f3c563a4e99d51abf6302884b5c4f6e054ade3e84a"), looks := true }, kinds := [], alts := [], laidByText := true, laidKinds := [.handle, .data], laidTests := true, laidLooks := .later }
def XferNobodyUptoCardSaid : Prop := Claim7.holds Tryd.pinned (.plain (OpenSpec.upto xferNobodySpec)) xferNobodyUptoCard

/-- THE SECOND FORM's CARD OF 'quorumlaw6.SnapPieces'. -/
def snapPiecesUptoCard : Claim7 := { stood := { row := snapPiecesUptoRow, standIns := [], harness := (true, "77e1b22831a35bd0d446b0f3c563a4e99d51abf6302884b5c4f6e054ade3e84a"), looks := true }, kinds := [], alts := [], laidByText := true, laidKinds := [.data, .handle, .data, .pinned], laidTests := true, laidLooks := .later }
def SnapPiecesUptoCardSaid : Prop := Claim7.holds Tryd.pinned (.plain (OpenSpec.upto snapPiecesSpec)) snapPiecesUptoCard

/-- THE SECOND FORM's CARD OF 'quorumlaw6.SnapRound'. -/
def snapRoundUptoCard : Claim7 := { stood := { row := snapRoundUptoRow, standIns := [], harness := (true, "77e1b22831a35bd0d446b0f3c563a4e99d51abf6302884b5c4f6e054ade3e84a"), looks := true }, kinds := [], alts := [], laidByText := true, laidKinds := [.data, .handle, .data, .pinned], laidTests := true, laidLooks := .later }
def SnapRoundUptoCardSaid : Prop := Claim7.holds Tryd.pinned (.plain (OpenSpec.upto snapRoundSpec)) snapRoundUptoCard

/-- THE SECOND FORM's CARD OF 'quorumlaw6.SnapForm'. -/
def snapFormUptoCard : Claim7 := { stood := { row := snapFormUptoRow, standIns := [], harness := (true, "77e1b22831a35bd0d446b0f3c563a4e99d51abf6302884b5c4f6e054ade3e84a"), looks := true }, kinds := [], alts := [], laidByText := true, laidKinds := [.data, .handle, .data, .pinned], laidTests := true, laidLooks := .later }
def SnapFormUptoCardSaid : Prop := Claim7.holds Tryd.pinned (.plain (OpenSpec.upto snapFormSpec)) snapFormUptoCard
end Rows
end Go.Proofs.YtfmifminaldmhaaDoor
