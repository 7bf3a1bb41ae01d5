/-
  DERIVED. GIVEN WITH THE SEED: THE CARDS: each row of YtcmfnebcmmklkaaDoorRows.lean that lists a variable, with what it lists TIED to the program's text (the seventh form; the later family's looks); each row that meets fmt, with fmt's text TOLD by the authors' own Lean function (tested against real Go, not proved from fmt's source: count such statements apart). THE CARD IS WHAT COUNTS. Prove the row's statement (the work); the ties are given (YtcmfnebcmmklkaaDoorTie.lean); close each card by the builder's one call (the guide's Derived/Test/ToyasCard.lean, 'card_holds'). Laid BY PROGRAM, IN A SANDBOX (cutbox-door.mjs). By AI agents, Wed Nov 11 2026. No macro, syntax, notation, axiom, sorry.
-/
import Derived.Test.YtcmfnebcmmklkaaDoorRows
import GoSem.ClaimSeven
namespace Go.Proofs.YtcmfnebcmmklkaaDoor
namespace Rows

/-- THE TIED CARD OF 'smaltolaw09.DozenLots'. -/
def dozenLotsCard : Claim7 := { stood := { row := dozenLotsRow, standIns := [], harness := (true, "eae6a69026046c4eed87d096d7102117aaa84f5b8cb0d3859b101e2eb8df058e"), looks := false }, kinds := [], alts := [], laidByText := true, laidKinds := [.data, .data], laidTests := true, laidLooks := .later }
def DozenLotsCardSaid : Prop := Claim7.holds Tryd.pinned (.plain (OpenSpec.ofChange dozenLotsSpec)) dozenLotsCard

/-- THE TIED CARD OF 'smaltolaw09.DozenWrongs'. -/
def dozenWrongsCard : Claim7 := { stood := { row := dozenWrongsRow, standIns := [], harness := (true, "eae6a69026046c4eed87d096d7102117aaa84f5b8cb0d3859b101e2eb8df058e"), looks := false }, kinds := [], alts := [], laidByText := true, laidKinds := [.data, .data], laidTests := true, laidLooks := .later }
def DozenWrongsCardSaid : Prop := Claim7.holds Tryd.pinned (.plain (OpenSpec.ofChange dozenWrongsSpec)) dozenWrongsCard

/-- THE TIED CARD OF 'smaltolaw09.DozenFills'. -/
def dozenFillsCard : Claim7 := { stood := { row := dozenFillsRow, standIns := [], harness := (true, "eae6a69026046c4eed87d096d7102117aaa84f5b8cb0d3859b101e2eb8df058e"), looks := false }, kinds := [], alts := [], laidByText := true, laidKinds := [.data, .data], laidTests := true, laidLooks := .later }
def DozenFillsCardSaid : Prop := Claim7.holds Tryd.pinned (.plain (OpenSpec.ofChange dozenFillsSpec)) dozenFillsCard

/-- THE TIED CARD OF 'smaltolaw09.DozenCrates'. -/
def dozenCratesCard : Claim7 := { stood := { row := dozenCratesRow, standIns := [], harness := (true, "eae6a69026046c4eed87d096d7102117aaa84f5b8cb0d3859b101e2eb8df058e"), looks := false }, kinds := [], alts := [], laidByText := true, laidKinds := [.data, .data], laidTests := true, laidLooks := .later }
def DozenCratesCardSaid : Prop := Claim7.holds Tryd.pinned (.plain (OpenSpec.ofChange dozenCratesSpec)) dozenCratesCard

/-- THE TIED CARD OF 'smaltolaw09.DozenWeighs'. -/
def dozenWeighsCard : Claim7 := { stood := { row := dozenWeighsRow, standIns := [], harness := (true, "eae6a69026046c4eed87d096d7102117aaa84f5b8cb0d3859b101e2eb8df058e"), looks := false }, kinds := [], alts := [], laidByText := true, laidKinds := [.data, .data], laidTests := true, laidLooks := .later }
def DozenWeighsCardSaid : Prop := Claim7.holds Tryd.pinned (.plain (OpenSpec.ofChange dozenWeighsSpec)) dozenWeighsCard

/-- THE TIED CARD OF 'smaltolaw09.DozenTruth'. -/
def dozenTruthCard : Claim7 := { stood := { row := dozenTruthRow, standIns := [], harness := (true, "eae6a69026046c4eed87d096d7102117aaa84f5b8cb0d3859b101e2eb8df058e"), looks := false }, kinds := [], alts := [], laidByText := true, laidKinds := [.data, .data], laidTests := true, laidLooks := .later }
def DozenTruthCardSaid : Prop := Claim7.holds Tryd.pinned (.plain (OpenSpec.ofChange dozenTruthSpec)) dozenTruthCard

/-- THE TIED CARD OF 'smaltolaw09.DozenEnds'. -/
def dozenEndsCard : Claim7 := { stood := { row := dozenEndsRow, standIns := [], harness := (true, "eae6a69026046c4eed87d096d7102117aaa84f5b8cb0d3859b101e2eb8df058e"), looks := false }, kinds := [], alts := [], laidByText := true, laidKinds := [.data, .data], laidTests := true, laidLooks := .later }
def DozenEndsCardSaid : Prop := Claim7.holds Tryd.pinned (.plain (OpenSpec.ofChange dozenEndsSpec)) dozenEndsCard

/-- THE TIED CARD OF 'smaltolaw09.DozenFilled'. -/
def dozenFilledCard : Claim7 := { stood := { row := dozenFilledRow, standIns := [], harness := (true, "eae6a69026046c4eed87d096d7102117aaa84f5b8cb0d3859b101e2eb8df058e"), looks := false }, kinds := [], alts := [], laidByText := true, laidKinds := [.data, .data], laidTests := true, laidLooks := .later }
def DozenFilledCardSaid : Prop := Claim7.holds Tryd.pinned (.plain (OpenSpec.ofChange dozenFilledSpec)) dozenFilledCard

/-- THE TIED CARD OF 'smaltolaw09.DozenBad'. -/
def dozenBadCard : Claim7 := { stood := { row := dozenBadRow, standIns := [], harness := (true, "eae6a69026046c4eed87d096d7102117aaa84f5b8cb0d3859b101e2eb8df058e"), looks := false }, kinds := [], alts := [], laidByText := true, laidKinds := [.data, .data], laidTests := true, laidLooks := .later }
def DozenBadCardSaid : Prop := Claim7.holds Tryd.pinned (.plain (OpenSpec.ofChange dozenBadSpec)) dozenBadCard

/-- THE TIED CARD OF 'smaltolaw09.DozenMixed'. -/
def dozenMixedCard : Claim7 := { stood := { row := dozenMixedRow, standIns := [], harness := (true, "eae6a69026046c4eed87d096d7102117aaa84f5b8cb0d3859b101e2eb8df058e"), looks := false }, kinds := [], alts := [], laidByText := true, laidKinds := [.data, .data], laidTests := true, laidLooks := .later }
def DozenMixedCardSaid : Prop := Claim7.holds Tryd.pinned (.plain (OpenSpec.ofChange dozenMixedSpec)) dozenMixedCard

/-- THE TIED CARD OF 'smaltolaw09.DozenMisread'. -/
def dozenMisreadCard : Claim7 := { stood := { row := dozenMisreadRow, standIns := [], harness := (true, "eae6a69026046c4eed87d096d7102117aaa84f5b8cb0d3859b101e2eb8df058e"), looks := false }, kinds := [], alts := [], laidByText := true, laidKinds := [.data, .data], laidTests := true, laidLooks := .later }
def DozenMisreadCardSaid : Prop := Claim7.holds Tryd.pinned (.plain (OpenSpec.ofChange dozenMisreadSpec)) dozenMisreadCard

/-- THE SECOND FORM's CARD OF 'smaltolaw09.DozenLots'. -/
def dozenLotsUptoCard : Claim7 := { stood := { row := dozenLotsUptoRow, standIns := [], harness := (true, "eae6a69026046c4eed87d096d7102117aaa84f5b8cb0d3859b101e2eb8df058e"), looks := false }, kinds := [], alts := [], laidByText := true, laidKinds := [.data, .data], laidTests := true, laidLooks := .later }
def DozenLotsUptoCardSaid : Prop := Claim7.holds Tryd.pinned (.plain (OpenSpec.upto dozenLotsSpec)) dozenLotsUptoCard

/-- THE SECOND FORM's CARD OF 'smaltolaw09.DozenWrongs'. -/
def dozenWrongsUptoCard : Claim7 := { stood := { row := dozenWrongsUptoRow, standIns := [], harness := (true, "eae6a69026046c4eed87d096d7102117aaa84f5b8cb0d3859b101e2eb8df058e"), looks := false }, kinds := [], alts := [], laidByText := true, laidKinds := [.data, .data], laidTests := true, laidLooks := .later }
def DozenWrongsUptoCardSaid : Prop := Claim7.holds Tryd.pinned (.plain (OpenSpec.upto dozenWrongsSpec)) dozenWrongsUptoCard

/-- THE SECOND FORM's CARD OF 'smaltolaw09.DozenFills'. -/
def dozenFillsUptoCard : Claim7 := { stood := { row := dozenFillsUptoRow, standIns := [], harness := (true, "eae6a69026046c4eed87d096d7102117aaa84f5b8cb0d3859b101e2eb8df058e"), looks := false }, kinds := [], alts := [], laidByText := true, laidKinds := [.data, .data], laidTests := true, laidLooks := .later }
def DozenFillsUptoCardSaid : Prop := Claim7.holds Tryd.pinned (.plain (OpenSpec.upto dozenFillsSpec)) dozenFillsUptoCard

/-- THE SECOND FORM's CARD OF 'smaltolaw09.DozenCrates'. -/
def dozenCratesUptoCard : Claim7 := { stood := { row := dozenCratesUptoRow, standIns := [], harness := (true, "eae6a69026046c4eed87d096d7102117aaa84f5b8cb0d3859b101e2eb8df058e"), looks := false }, kinds := [], alts := [], laidByText := true, laidKinds := [.data, .data], laidTests := true, laidLooks := .later }
def DozenCratesUptoCardSaid : Prop := Claim7.holds Tryd.pinned (.plain (OpenSpec.upto dozenCratesSpec)) dozenCratesUptoCard

/-- THE SECOND FORM's CARD OF 'smaltolaw09.DozenWeighs'. -/
def dozenWeighsUptoCard : Claim7 := { stood := { row := dozenWeighsUptoRow, standIns := [], harness := (true, "eae6a69026046c4eed87d096d7102117aaa84f5b8cb0d3859b101e2eb8df058e"), looks := false }, kinds := [], alts := [], laidByText := true, laidKinds := [.data, .data], laidTests := true, laidLooks := .later }
def DozenWeighsUptoCardSaid : Prop := Claim7.holds Tryd.pinned (.plain (OpenSpec.upto dozenWeighsSpec)) dozenWeighsUptoCard

/-- THE SECOND FORM's CARD OF 'smaltolaw09.DozenTruth'. -/
def dozenTruthUptoCard : Claim7 := { stood := { row := dozenTruthUptoRow, standIns := [], harness := (true, "eae6a69026046c4eed87d096d7102117aaa84f5b8cb0d3859b101e2eb8df058e"), looks := false }, kinds := [], alts := [], laidByText := true, laidKinds := [.data, .data], laidTests := true, laidLooks := .later }
def DozenTruthUptoCardSaid : Prop := Claim7.holds Tryd.pinned (.plain (OpenSpec.upto dozenTruthSpec)) dozenTruthUptoCard

/-- THE SECOND FORM's CARD OF 'smaltolaw09.DozenEnds'. -/
def dozenEndsUptoCard : Claim7 := { stood := { row := dozenEndsUptoRow, standIns := [], harness := (true, "eae6a69026046c4eed87d096d7102117aaa84f5b8cb0d3859b101e2eb8df058e"), looks := false }, kinds := [], alts := [], laidByText := true, laidKinds := [.data, .data], laidTests := true, laidLooks := .later }
def DozenEndsUptoCardSaid : Prop := Claim7.holds Tryd.pinned (.plain (OpenSpec.upto dozenEndsSpec)) dozenEndsUptoCard

/-- THE SECOND FORM's CARD OF 'smaltolaw09.DozenFilled'. -/
def dozenFilledUptoCard : Claim7 := { stood := { row := dozenFilledUptoRow, standIns := [], harness := (true, "eae6a69026046c4eed87d096d7102117aaa84f5b8cb0d3859b101e2eb8df058e"), looks := false }, kinds := [], alts := [], laidByText := true, laidKinds := [.data, .data], laidTests := true, laidLooks := .later }
def DozenFilledUptoCardSaid : Prop := Claim7.holds Tryd.pinned (.plain (OpenSpec.upto dozenFilledSpec)) dozenFilledUptoCard

/-- THE SECOND FORM's CARD OF 'smaltolaw09.DozenBad'. -/
def dozenBadUptoCard : Claim7 := { stood := { row := dozenBadUptoRow, standIns := [], harness := (true, "eae6a69026046c4eed87d096d7102117aaa84f5b8cb0d3859b101e2eb8df058e"), looks := false }, kinds := [], alts := [], laidByText := true, laidKinds := [.data, .data], laidTests := true, laidLooks := .later }
def DozenBadUptoCardSaid : Prop := Claim7.holds Tryd.pinned (.plain (OpenSpec.upto dozenBadSpec)) dozenBadUptoCard

/-- THE SECOND FORM's CARD OF 'smaltolaw09.DozenMixed'. -/
def dozenMixedUptoCard : Claim7 := { stood := { row := dozenMixedUptoRow, standIns := [], harness := (true, "eae6a69026046c4eed87d096d7102117aaa84f5b8cb0d3859b101e2eb8df058e"), looks := false }, kinds := [], alts := [], laidByText := true, laidKinds := [.data, .data], laidTests := true, laidLooks := .later }
def DozenMixedUptoCardSaid : Prop := Claim7.holds Tryd.pinned (.plain (OpenSpec.upto dozenMixedSpec)) dozenMixedUptoCard

/-- THE SECOND FORM's CARD OF 'smaltolaw09.DozenMisread'. -/
def dozenMisreadUptoCard : Claim7 := { stood := { row := dozenMisreadUptoRow, standIns := [], harness := (true, "eae6a69026046c4eed87d096d7102117aaa84f5b8cb0d3859b101e2eb8df058e"), looks := false }, kinds := [], alts := [], laidByText := true, laidKinds := [.data, .data], laidTests := true, laidLooks := .later }
def DozenMisreadUptoCardSaid : Prop := Claim7.holds Tryd.pinned (.plain (OpenSpec.upto dozenMisreadSpec)) dozenMisreadUptoCard
end Rows
end Go.Proofs.YtcmfnebcmmklkaaDoor
