/-
  DERIVED. GIVEN WITH THE SEED: THE CARDS: each row of YtbijamlgcebgeaaDoorRows.lean that lists a variable, with what it lists TIED to the program's text (the seventh form; the later family's looks); each row that meets fmt, with fmt's text TOLD by the authors' own Lean function (tested against real Go, not proved from fmt's source: count such statements apart). THE CARD IS WHAT COUNTS. Prove the row's statement (the work); the ties are given (YtbijamlgcebgeaaDoorTie.lean); close each card by the builder's one call (the guide's Derived/Test/ToyasCard.lean, 'card_holds'). Laid BY PROGRAM, IN A SANDBOX (cutbox-door.mjs). By AI agents, Wed Nov 11 2026. No macro, syntax, notation, axiom, sorry.
-/
import Derived.Test.YtbijamlgcebgeaaDoorRows
import GoSem.ClaimSeven
namespace Go.Proofs.YtbijamlgcebgeaaDoor
namespace Rows

/-- THE TIED CARD OF 'smaltolaw03.ForkGoes'. -/
def forkGoesCard : Claim7 := { stood := { row := forkGoesRow, standIns := [], harness := (true, "44463dc58a37f2d6ec5334da2dfac9ed858a820e50b4a4cec58b3619e8284b06"), looks := false }, kinds := [], alts := [], laidByText := true, laidKinds := [.data, .data], laidTests := true, laidLooks := .later }
def ForkGoesCardSaid : Prop := Claim7.holds Tryd.pinned (.plain (OpenSpec.ofChange forkGoesSpec)) forkGoesCard

/-- THE TIED CARD OF 'smaltolaw03.ForkStills'. -/
def forkStillsCard : Claim7 := { stood := { row := forkStillsRow, standIns := [], harness := (true, "44463dc58a37f2d6ec5334da2dfac9ed858a820e50b4a4cec58b3619e8284b06"), looks := false }, kinds := [], alts := [], laidByText := true, laidKinds := [.data, .data], laidTests := true, laidLooks := .later }
def ForkStillsCardSaid : Prop := Claim7.holds Tryd.pinned (.plain (OpenSpec.ofChange forkStillsSpec)) forkStillsCard

/-- THE TIED CARD OF 'smaltolaw03.ForkLoads'. -/
def forkLoadsCard : Claim7 := { stood := { row := forkLoadsRow, standIns := [], harness := (true, "44463dc58a37f2d6ec5334da2dfac9ed858a820e50b4a4cec58b3619e8284b06"), looks := false }, kinds := [], alts := [], laidByText := true, laidKinds := [.data, .data], laidTests := true, laidLooks := .later }
def ForkLoadsCardSaid : Prop := Claim7.holds Tryd.pinned (.plain (OpenSpec.ofChange forkLoadsSpec)) forkLoadsCard

/-- THE TIED CARD OF 'smaltolaw03.ForkAparts'. -/
def forkApartsCard : Claim7 := { stood := { row := forkApartsRow, standIns := [], harness := (true, "44463dc58a37f2d6ec5334da2dfac9ed858a820e50b4a4cec58b3619e8284b06"), looks := false }, kinds := [], alts := [], laidByText := true, laidKinds := [.data, .data], laidTests := true, laidLooks := .later }
def ForkApartsCardSaid : Prop := Claim7.holds Tryd.pinned (.plain (OpenSpec.ofChange forkApartsSpec)) forkApartsCard

/-- THE TIED CARD OF 'smaltolaw03.ForkPuts'. -/
def forkPutsCard : Claim7 := { stood := { row := forkPutsRow, standIns := [], harness := (true, "44463dc58a37f2d6ec5334da2dfac9ed858a820e50b4a4cec58b3619e8284b06"), looks := false }, kinds := [], alts := [], laidByText := true, laidKinds := [.data, .data], laidTests := true, laidLooks := .later }
def ForkPutsCardSaid : Prop := Claim7.holds Tryd.pinned (.plain (OpenSpec.ofChange forkPutsSpec)) forkPutsCard

/-- THE TIED CARD OF 'smaltolaw03.ForkRight'. -/
def forkRightCard : Claim7 := { stood := { row := forkRightRow, standIns := [], harness := (true, "44463dc58a37f2d6ec5334da2dfac9ed858a820e50b4a4cec58b3619e8284b06"), looks := false }, kinds := [], alts := [], laidByText := true, laidKinds := [.data, .data], laidTests := true, laidLooks := .later }
def ForkRightCardSaid : Prop := Claim7.holds Tryd.pinned (.plain (OpenSpec.ofChange forkRightSpec)) forkRightCard

/-- THE TIED CARD OF 'smaltolaw03.ForkFew'. -/
def forkFewCard : Claim7 := { stood := { row := forkFewRow, standIns := [], harness := (true, "44463dc58a37f2d6ec5334da2dfac9ed858a820e50b4a4cec58b3619e8284b06"), looks := false }, kinds := [], alts := [], laidByText := true, laidKinds := [.data, .data], laidTests := true, laidLooks := .later }
def ForkFewCardSaid : Prop := Claim7.holds Tryd.pinned (.plain (OpenSpec.ofChange forkFewSpec)) forkFewCard

/-- THE TIED CARD OF 'smaltolaw03.ForkBarred'. -/
def forkBarredCard : Claim7 := { stood := { row := forkBarredRow, standIns := [], harness := (true, "44463dc58a37f2d6ec5334da2dfac9ed858a820e50b4a4cec58b3619e8284b06"), looks := false }, kinds := [], alts := [], laidByText := true, laidKinds := [.data, .data], laidTests := true, laidLooks := .later }
def ForkBarredCardSaid : Prop := Claim7.holds Tryd.pinned (.plain (OpenSpec.ofChange forkBarredSpec)) forkBarredCard

/-- THE TIED CARD OF 'smaltolaw03.ForkCost'. -/
def forkCostCard : Claim7 := { stood := { row := forkCostRow, standIns := [], harness := (true, "44463dc58a37f2d6ec5334da2dfac9ed858a820e50b4a4cec58b3619e8284b06"), looks := false }, kinds := [], alts := [], laidByText := true, laidKinds := [.data, .data], laidTests := true, laidLooks := .later }
def ForkCostCardSaid : Prop := Claim7.holds Tryd.pinned (.plain (OpenSpec.ofChange forkCostSpec)) forkCostCard

/-- THE TIED CARD OF 'smaltolaw03.ForkPutRight'. -/
def forkPutRightCard : Claim7 := { stood := { row := forkPutRightRow, standIns := [], harness := (true, "44463dc58a37f2d6ec5334da2dfac9ed858a820e50b4a4cec58b3619e8284b06"), looks := false }, kinds := [], alts := [], laidByText := true, laidKinds := [.data, .data], laidTests := true, laidLooks := .later }
def ForkPutRightCardSaid : Prop := Claim7.holds Tryd.pinned (.plain (OpenSpec.ofChange forkPutRightSpec)) forkPutRightCard

/-- THE SECOND FORM's CARD OF 'smaltolaw03.ForkGoes'. -/
def forkGoesUptoCard : Claim7 := { stood := { row := forkGoesUptoRow, standIns := [], harness := (true, "44463dc58a37f2d6ec5334da2dfac9ed858a820e50b4a4cec58b3619e8284b06"), looks := false }, kinds := [], alts := [], laidByText := true, laidKinds := [.data, .data], laidTests := true, laidLooks := .later }
def ForkGoesUptoCardSaid : Prop := Claim7.holds Tryd.pinned (.plain (OpenSpec.upto forkGoesSpec)) forkGoesUptoCard

/-- THE SECOND FORM's CARD OF 'smaltolaw03.ForkStills'. -/
def forkStillsUptoCard : Claim7 := { stood := { row := forkStillsUptoRow, standIns := [], harness := (true, "44463dc58a37f2d6ec5334da2dfac9ed858a820e50b4a4cec58b3619e8284b06"), looks := false }, kinds := [], alts := [], laidByText := true, laidKinds := [.data, .data], laidTests := true, laidLooks := .later }
def ForkStillsUptoCardSaid : Prop := Claim7.holds Tryd.pinned (.plain (OpenSpec.upto forkStillsSpec)) forkStillsUptoCard

/-- THE SECOND FORM's CARD OF 'smaltolaw03.ForkLoads'. -/
def forkLoadsUptoCard : Claim7 := { stood := { row := forkLoadsUptoRow, standIns := [], harness := (true, "44463dc58a37f2d6ec5334da2dfac9ed858a820e50b4a4cec58b3619e8284b06"), looks := false }, kinds := [], alts := [], laidByText := true, laidKinds := [.data, .data], laidTests := true, laidLooks := .later }
def ForkLoadsUptoCardSaid : Prop := Claim7.holds Tryd.pinned (.plain (OpenSpec.upto forkLoadsSpec)) forkLoadsUptoCard

/-- THE SECOND FORM's CARD OF 'smaltolaw03.ForkAparts'. -/
def forkApartsUptoCard : Claim7 := { stood := { row := forkApartsUptoRow, standIns := [], harness := (true, "44463dc58a37f2d6ec5334da2dfac9ed858a820e50b4a4cec58b3619e8284b06"), looks := false }, kinds := [], alts := [], laidByText := true, laidKinds := [.data, .data], laidTests := true, laidLooks := .later }
def ForkApartsUptoCardSaid : Prop := Claim7.holds Tryd.pinned (.plain (OpenSpec.upto forkApartsSpec)) forkApartsUptoCard

/-- THE SECOND FORM's CARD OF 'smaltolaw03.ForkPuts'. -/
def forkPutsUptoCard : Claim7 := { stood := { row := forkPutsUptoRow, standIns := [], harness := (true, "44463dc58a37f2d6ec5334da2dfac9ed858a820e50b4a4cec58b3619e8284b06"), looks := false }, kinds := [], alts := [], laidByText := true, laidKinds := [.data, .data], laidTests := true, laidLooks := .later }
def ForkPutsUptoCardSaid : Prop := Claim7.holds Tryd.pinned (.plain (OpenSpec.upto forkPutsSpec)) forkPutsUptoCard

/-- THE SECOND FORM's CARD OF 'smaltolaw03.ForkRight'. -/
def forkRightUptoCard : Claim7 := { stood := { row := forkRightUptoRow, standIns := [], harness := (true, "44463dc58a37f2d6ec5334da2dfac9ed858a820e50b4a4cec58b3619e8284b06"), looks := false }, kinds := [], alts := [], laidByText := true, laidKinds := [.data, .data], laidTests := true, laidLooks := .later }
def ForkRightUptoCardSaid : Prop := Claim7.holds Tryd.pinned (.plain (OpenSpec.upto forkRightSpec)) forkRightUptoCard

/-- THE SECOND FORM's CARD OF 'smaltolaw03.ForkFew'. -/
def forkFewUptoCard : Claim7 := { stood := { row := forkFewUptoRow, standIns := [], harness := (true, "44463dc58a37f2d6ec5334da2dfac9ed858a820e50b4a4cec58b3619e8284b06"), looks := false }, kinds := [], alts := [], laidByText := true, laidKinds := [.data, .data], laidTests := true, laidLooks := .later }
def ForkFewUptoCardSaid : Prop := Claim7.holds Tryd.pinned (.plain (OpenSpec.upto forkFewSpec)) forkFewUptoCard

/-- THE SECOND FORM's CARD OF 'smaltolaw03.ForkBarred'. -/
def forkBarredUptoCard : Claim7 := { stood := { row := forkBarredUptoRow, standIns := [], harness := (true, "44463dc58a37f2d6ec5334da2dfac9ed858a820e50b4a4cec58b3619e8284b06"), looks := false }, kinds := [], alts := [], laidByText := true, laidKinds := [.data, .data], laidTests := true, laidLooks := .later }
def ForkBarredUptoCardSaid : Prop := Claim7.holds Tryd.pinned (.plain (OpenSpec.upto forkBarredSpec)) forkBarredUptoCard

/-- THE SECOND FORM's CARD OF 'smaltolaw03.ForkCost'. -/
def forkCostUptoCard : Claim7 := { stood := { row := forkCostUptoRow, standIns := [], harness := (true, "44463dc58a37f2d6ec5334da2dfac9ed858a820e50b4a4cec58b3619e8284b06"), looks := false }, kinds := [], alts := [], laidByText := true, laidKinds := [.data, .data], laidTests := true, laidLooks := .later }
def ForkCostUptoCardSaid : Prop := Claim7.holds Tryd.pinned (.plain (OpenSpec.upto forkCostSpec)) forkCostUptoCard

/-- THE SECOND FORM's CARD OF 'smaltolaw03.ForkPutRight'. -/
def forkPutRightUptoCard : Claim7 := { stood := { row := forkPutRightUptoRow, standIns := [], harness := (true, "44463dc58a37f2d6ec5334da2dfac9ed858a820e50b4a4cec58b3619e8284b06"), looks := false }, kinds := [], alts := [], laidByText := true, laidKinds := [.data, .data], laidTests := true, laidLooks := .later }
def ForkPutRightUptoCardSaid : Prop := Claim7.holds Tryd.pinned (.plain (OpenSpec.upto forkPutRightSpec)) forkPutRightUptoCard
end Rows
end Go.Proofs.YtbijamlgcebgeaaDoor
