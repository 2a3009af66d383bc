/-
  DERIVED. GIVEN WITH THE SEED: THE CARDS: each row of YtlfaalbkhfjpkaaDoorRows.lean that lists a variable, with what it lists TIED to the program's text (the seventh form; the later family's looks); each row that meets fmt, with fmt's text TOLD by the authors' own Lean function (tested against real Go, not proved from fmt's source: count such statements apart). THE CARD IS WHAT COUNTS. Prove the row's statement (the work); the ties are given (YtlfaalbkhfjpkaaDoorTie.lean); close each card by the builder's one call (the guide's Derived/Test/ToyasCard.lean, 'card_holds'). Laid BY PROGRAM, IN A SANDBOX (cutbox-door.mjs). By AI agents, Wed Nov 11 2026. No macro, syntax, notation, axiom, sorry.
-/
import Derived.Test.YtlfaalbkhfjpkaaDoorRows
import GoSem.ClaimSeven
namespace Go.Proofs.YtlfaalbkhfjpkaaDoor
namespace Rows

/-- THE TIED CARD OF 'quorumlaw6.SnapSums'. -/
def snapSumsCard : Claim7 := { stood := { row := snapSumsRow, standIns := [], harness := (true, "bc4e41581956ec5bfa88e2f0ab76031a70b85a889056cdc5102c378998143f8a"), looks := true }, kinds := [], alts := [], laidByText := true, laidKinds := [.data], laidTests := true, laidLooks := .later }
def SnapSumsCardSaid : Prop := Claim7.holds Tryd.pinned (.plain (OpenSpec.ofChange snapSumsSpec)) snapSumsCard

/-- THE TIED CARD OF 'quorumlaw6.SnapTrees'. -/
def snapTreesCard : Claim7 := { stood := { row := snapTreesRow, standIns := [], harness := (true, "bc4e41581956ec5bfa88e2f0ab76031a70b85a889056cdc5102c378998143f8a"), looks := true }, kinds := [], alts := [], laidByText := true, laidKinds := [.data], laidTests := true, laidLooks := .later }
def SnapTreesCardSaid : Prop := Claim7.holds Tryd.pinned (.plain (OpenSpec.ofChange snapTreesSpec)) snapTreesCard

/-- THE TIED CARD OF 'quorumlaw6.SnapVerifies'. -/
def snapVerifiesCard : Claim7 := { stood := { row := snapVerifiesRow, standIns := [], harness := (true, "bc4e41581956ec5bfa88e2f0ab76031a70b85a889056cdc5102c378998143f8a"), looks := true }, kinds := [], alts := [], laidByText := true, laidKinds := [.data], laidTests := true, laidLooks := .later }
def SnapVerifiesCardSaid : Prop := Claim7.holds Tryd.pinned (.plain (OpenSpec.ofChange snapVerifiesSpec)) snapVerifiesCard

/-- THE TIED CARD OF 'quorumlaw14.XferSupplies'. -/
def xferSuppliesCard : Claim7 := { stood := { row := xferSuppliesRow, standIns := [], harness := (true, "bc4e41581956ec5bfa88e2f0ab76031a70b85a889056cdc5102c378998143f8a"), looks := true }, kinds := [], alts := [], laidByText := true, laidKinds := [.data], laidTests := true, laidLooks := .later }
def XferSuppliesCardSaid : Prop := Claim7.holds Tryd.pinned (.plain (OpenSpec.ofChange xferSuppliesSpec)) xferSuppliesCard

/-- THE SECOND FORM's CARD OF 'quorumlaw6.SnapSums'. -/
def snapSumsUptoCard : Claim7 := { stood := { row := snapSumsUptoRow, standIns := [], harness := (true, "bc4e41581956ec5bfa88e2f0ab76031a70b85a889056cdc5102c378998143f8a"), looks := true }, kinds := [], alts := [], laidByText := true, laidKinds := [.data], laidTests := true, laidLooks := .later }
def SnapSumsUptoCardSaid : Prop := Claim7.holds Tryd.pinned (.plain (OpenSpec.upto snapSumsSpec)) snapSumsUptoCard

/-- THE SECOND FORM's CARD OF 'quorumlaw6.SnapTrees'. -/
def snapTreesUptoCard : Claim7 := { stood := { row := snapTreesUptoRow, standIns := [], harness := (true, "bc4e41581956ec5bfa88e2f0ab76031a70b85a889056cdc5102c378998143f8a"), looks := true }, kinds := [], alts := [], laidByText := true, laidKinds := [.data], laidTests := true, laidLooks := .later }
def SnapTreesUptoCardSaid : Prop := Claim7.holds Tryd.pinned (.plain (OpenSpec.upto snapTreesSpec)) snapTreesUptoCard

/-- THE SECOND FORM's CARD OF 'quorumlaw6.SnapVerifies'. -/
def snapVerifiesUptoCard : Claim7 := { stood := { row := snapVerifiesUptoRow, standIns := [], harness := (true, "bc4e41581956ec5bfa88e2f0ab76031a70b85a889056cdc5102c378998143f8a"), looks := true }, kinds := [], alts := [], laidByText := true, laidKinds := [.data], laidTests := true, laidLooks := .later }
def SnapVerifiesUptoCardSaid : Prop := Claim7.holds Tryd.pinned (.plain (OpenSpec.upto snapVerifiesSpec)) snapVerifiesUptoCard

/-- THE SECOND FORM's CARD OF 'quorumlaw14.XferSupplies'. -/
def xferSuppliesUptoCard : Claim7 := { stood := { row := xferSuppliesUptoRow, standIns := [], harness := (true, "bc4e41581956ec5bfa88e2f0ab76031a70b85a889056cdc5102c378998143f8a"), looks := true }, kinds := [], alts := [], laidByText := true, laidKinds := [.data], laidTests := true, laidLooks := .later }
def XferSuppliesUptoCardSaid : Prop := Claim7.holds Tryd.pinned (.plain (OpenSpec.upto xferSuppliesSpec)) xferSuppliesUptoCard
end Rows
end Go.Proofs.YtlfaalbkhfjpkaaDoor
