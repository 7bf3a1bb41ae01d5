/-
  NARROWER THAN 'FOR EVERY INPUT', by the rows' own cells (each row's printed sentence says how): DozenLots: laid · DozenWrongs: laid · DozenFills: laid · DozenCrates: laid · DozenWeighs: laid · DozenTruth: laid · DozenEnds: laid · DozenFilled: laid · DozenBad: laid · DozenMixed: laid · DozenMisread: laid.
  DERIVED. THE GIVEN ROWS OF THIS SEAT. 11 by the template 'for every input the law returns true; each argument reads behind the call as it read before'; 0 by the template 'total and deterministic' (their statements: YtcmfnebcmmklkaaDoorTotals.lean).
  GIVEN WITH THE SEED: the statements are not yours to turn. If you find one false, say at which input.
  Laid BY PROGRAM, IN A SANDBOX (cutbox-rows.mjs): the forced cells as the released guide's own fill.sh prints them over the translation 453767ccb5d4b488… (all of the seat's roots in one cut). By AI agents, Wed Nov 11 2026. No macro, syntax, notation, axiom, sorry.
-/
import Derived.Test.YtcmfnebcmmklkaaDoorChecked
import GoSem.Claim
import GoSem.ClaimJoined
import GoSem.ClaimMapViews
import Derived.JoinedTies
import Derived.KernelRfl
namespace Go.Proofs.YtcmfnebcmmklkaaDoor
/- THE CELL 'sum', in the pinned program and in every row, IS THE sha256 OF THE DUMP (.gsa) THAT YtcmfnebcmmklkaaDoorProg.lean LOADS. Nothing in Lean hashes anything: it is a label: what it is worth is what the hold of that sum in a sandbox is worth. -/
noncomputable def Tryd.pinned : Pinned := { name := "ytcmfnebcmmklkaadoor", sum := "453767ccb5d4b488ffc0e8e1ed93282fd6734e476760c99779764ba32a4e2ea5", checked := Tryd.checked }
namespace Rows
def none {H : Type} : Left H := { results := [], args := [] }

/- WHAT THE LISTED PACKAGE-LEVEL VARIABLES READ AS WHEN THE CALL BEGINS. Each datum BY PROGRAM (the guide's laid-datum.mjs) off the statement by which the dump's own 'gosem.cut.vars' lays the variable. In a bare row this is a premise. The card (YtcmfnebcmmklkaaDoorCards.lean) ties it to the program's text. -/
def laid_math_bits_deBruijn32tab {H : Type} : DataW H := .agg [.lit (.int .u8 0), .lit (.int .u8 1), .lit (.int .u8 28), .lit (.int .u8 2), .lit (.int .u8 29), .lit (.int .u8 14), .lit (.int .u8 24), .lit (.int .u8 3), .lit (.int .u8 30), .lit (.int .u8 22), .lit (.int .u8 20), .lit (.int .u8 15), .lit (.int .u8 25), .lit (.int .u8 17), .lit (.int .u8 4), .lit (.int .u8 8), .lit (.int .u8 31), .lit (.int .u8 27), .lit (.int .u8 13), .lit (.int .u8 23), .lit (.int .u8 21), .lit (.int .u8 19), .lit (.int .u8 16), .lit (.int .u8 7), .lit (.int .u8 26), .lit (.int .u8 12), .lit (.int .u8 18), .lit (.int .u8 6), .lit (.int .u8 11), .lit (.int .u8 5), .lit (.int .u8 10), .lit (.int .u8 9)]
def laid_math_bits_deBruijn64tab {H : Type} : DataW H := .agg [.lit (.int .u8 0), .lit (.int .u8 1), .lit (.int .u8 56), .lit (.int .u8 2), .lit (.int .u8 57), .lit (.int .u8 49), .lit (.int .u8 28), .lit (.int .u8 3), .lit (.int .u8 61), .lit (.int .u8 58), .lit (.int .u8 42), .lit (.int .u8 50), .lit (.int .u8 38), .lit (.int .u8 29), .lit (.int .u8 17), .lit (.int .u8 4), .lit (.int .u8 62), .lit (.int .u8 47), .lit (.int .u8 59), .lit (.int .u8 36), .lit (.int .u8 45), .lit (.int .u8 43), .lit (.int .u8 51), .lit (.int .u8 22), .lit (.int .u8 53), .lit (.int .u8 39), .lit (.int .u8 33), .lit (.int .u8 30), .lit (.int .u8 24), .lit (.int .u8 18), .lit (.int .u8 12), .lit (.int .u8 5), .lit (.int .u8 63), .lit (.int .u8 55), .lit (.int .u8 48), .lit (.int .u8 27), .lit (.int .u8 60), .lit (.int .u8 41), .lit (.int .u8 37), .lit (.int .u8 16), .lit (.int .u8 46), .lit (.int .u8 35), .lit (.int .u8 44), .lit (.int .u8 21), .lit (.int .u8 52), .lit (.int .u8 32), .lit (.int .u8 23), .lit (.int .u8 11), .lit (.int .u8 54), .lit (.int .u8 26), .lit (.int .u8 40), .lit (.int .u8 15), .lit (.int .u8 34), .lit (.int .u8 20), .lit (.int .u8 31), .lit (.int .u8 10), .lit (.int .u8 25), .lit (.int .u8 14), .lit (.int .u8 19), .lit (.int .u8 9), .lit (.int .u8 13), .lit (.int .u8 8), .lit (.int .u8 7), .lit (.int .u8 6)]

/-- 'smaltolaw09.DozenLots': WHATEVER THE INPUT: true; the input reads as it did. -/
def dozenLotsSpec : ChangeSpec := { name := "dozenLots", fn := fun _ => fun
  | [d] => { results := [.lit (.bool true)], args := [d] }
  | _ => none }
def dozenLotsRow : OpenClaim := { program := "ytcmfnebcmmklkaadoor", sum := "453767ccb5d4b488ffc0e8e1ed93282fd6734e476760c99779764ba32a4e2ea5", func := "smalto/smaltolaw09.DozenLots", spec := "dozenLots", unfollowed := true, recurses := true, named := ["math/bits.deBruijn32tab", "math/bits.deBruijn64tab"], plainKeys := false, apart := false, laid := [("math/bits.deBruijn32tab", laid_math_bits_deBruijn32tab), ("math/bits.deBruijn64tab", laid_math_bits_deBruijn64tab)] }
def DozenLotsSaid : Prop := dozenLotsRow.holds Tryd.pinned (OpenSpec.ofChange dozenLotsSpec)

/-- ITS FALSE NEIGHBOUR: 'it returns false'. Refute it at one input. -/
def dozenLotsWrong : ChangeSpec := { name := "dozenLots", fn := fun _ => fun
  | [d] => { results := [.lit (.bool false)], args := [d] }
  | _ => none }
def DozenLotsWrongFalsely : Prop := dozenLotsRow.holds Tryd.pinned (OpenSpec.ofChange dozenLotsWrong)

/-- 'smaltolaw09.DozenWrongs': WHATEVER THE INPUT: true; the input reads as it did. -/
def dozenWrongsSpec : ChangeSpec := { name := "dozenWrongs", fn := fun _ => fun
  | [d] => { results := [.lit (.bool true)], args := [d] }
  | _ => none }
def dozenWrongsRow : OpenClaim := { program := "ytcmfnebcmmklkaadoor", sum := "453767ccb5d4b488ffc0e8e1ed93282fd6734e476760c99779764ba32a4e2ea5", func := "smalto/smaltolaw09.DozenWrongs", spec := "dozenWrongs", unfollowed := true, recurses := true, named := ["math/bits.deBruijn32tab", "math/bits.deBruijn64tab"], plainKeys := false, apart := false, laid := [("math/bits.deBruijn32tab", laid_math_bits_deBruijn32tab), ("math/bits.deBruijn64tab", laid_math_bits_deBruijn64tab)] }
def DozenWrongsSaid : Prop := dozenWrongsRow.holds Tryd.pinned (OpenSpec.ofChange dozenWrongsSpec)

/-- ITS FALSE NEIGHBOUR: 'it returns false'. Refute it at one input. -/
def dozenWrongsWrong : ChangeSpec := { name := "dozenWrongs", fn := fun _ => fun
  | [d] => { results := [.lit (.bool false)], args := [d] }
  | _ => none }
def DozenWrongsWrongFalsely : Prop := dozenWrongsRow.holds Tryd.pinned (OpenSpec.ofChange dozenWrongsWrong)

/-- 'smaltolaw09.DozenFills': WHATEVER THE INPUT: true; the input reads as it did. -/
def dozenFillsSpec : ChangeSpec := { name := "dozenFills", fn := fun _ => fun
  | [d1, d2, d3] => { results := [.lit (.bool true)], args := [d1, d2, d3] }
  | _ => none }
def dozenFillsRow : OpenClaim := { program := "ytcmfnebcmmklkaadoor", sum := "453767ccb5d4b488ffc0e8e1ed93282fd6734e476760c99779764ba32a4e2ea5", func := "smalto/smaltolaw09.DozenFills", spec := "dozenFills", unfollowed := true, recurses := true, named := ["math/bits.deBruijn32tab", "math/bits.deBruijn64tab"], plainKeys := false, apart := false, laid := [("math/bits.deBruijn32tab", laid_math_bits_deBruijn32tab), ("math/bits.deBruijn64tab", laid_math_bits_deBruijn64tab)] }
def DozenFillsSaid : Prop := dozenFillsRow.holds Tryd.pinned (OpenSpec.ofChange dozenFillsSpec)

/-- ITS FALSE NEIGHBOUR: 'it returns false'. Refute it at one input. -/
def dozenFillsWrong : ChangeSpec := { name := "dozenFills", fn := fun _ => fun
  | [d1, d2, d3] => { results := [.lit (.bool false)], args := [d1, d2, d3] }
  | _ => none }
def DozenFillsWrongFalsely : Prop := dozenFillsRow.holds Tryd.pinned (OpenSpec.ofChange dozenFillsWrong)

/-- 'smaltolaw09.DozenCrates': WHATEVER THE INPUT: true; the input reads as it did. -/
def dozenCratesSpec : ChangeSpec := { name := "dozenCrates", fn := fun _ => fun
  | [d1, d2, d3] => { results := [.lit (.bool true)], args := [d1, d2, d3] }
  | _ => none }
def dozenCratesRow : OpenClaim := { program := "ytcmfnebcmmklkaadoor", sum := "453767ccb5d4b488ffc0e8e1ed93282fd6734e476760c99779764ba32a4e2ea5", func := "smalto/smaltolaw09.DozenCrates", spec := "dozenCrates", unfollowed := true, recurses := true, named := ["math/bits.deBruijn32tab", "math/bits.deBruijn64tab"], plainKeys := false, apart := false, laid := [("math/bits.deBruijn32tab", laid_math_bits_deBruijn32tab), ("math/bits.deBruijn64tab", laid_math_bits_deBruijn64tab)] }
def DozenCratesSaid : Prop := dozenCratesRow.holds Tryd.pinned (OpenSpec.ofChange dozenCratesSpec)

/-- ITS FALSE NEIGHBOUR: 'it returns false'. Refute it at one input. -/
def dozenCratesWrong : ChangeSpec := { name := "dozenCrates", fn := fun _ => fun
  | [d1, d2, d3] => { results := [.lit (.bool false)], args := [d1, d2, d3] }
  | _ => none }
def DozenCratesWrongFalsely : Prop := dozenCratesRow.holds Tryd.pinned (OpenSpec.ofChange dozenCratesWrong)

/-- 'smaltolaw09.DozenWeighs': WHATEVER THE INPUT: true; the input reads as it did. -/
def dozenWeighsSpec : ChangeSpec := { name := "dozenWeighs", fn := fun _ => fun
  | [d1, d2, d3] => { results := [.lit (.bool true)], args := [d1, d2, d3] }
  | _ => none }
def dozenWeighsRow : OpenClaim := { program := "ytcmfnebcmmklkaadoor", sum := "453767ccb5d4b488ffc0e8e1ed93282fd6734e476760c99779764ba32a4e2ea5", func := "smalto/smaltolaw09.DozenWeighs", spec := "dozenWeighs", unfollowed := true, recurses := true, named := ["math/bits.deBruijn32tab", "math/bits.deBruijn64tab"], plainKeys := false, apart := false, laid := [("math/bits.deBruijn32tab", laid_math_bits_deBruijn32tab), ("math/bits.deBruijn64tab", laid_math_bits_deBruijn64tab)] }
def DozenWeighsSaid : Prop := dozenWeighsRow.holds Tryd.pinned (OpenSpec.ofChange dozenWeighsSpec)

/-- ITS FALSE NEIGHBOUR: 'it returns false'. Refute it at one input. -/
def dozenWeighsWrong : ChangeSpec := { name := "dozenWeighs", fn := fun _ => fun
  | [d1, d2, d3] => { results := [.lit (.bool false)], args := [d1, d2, d3] }
  | _ => none }
def DozenWeighsWrongFalsely : Prop := dozenWeighsRow.holds Tryd.pinned (OpenSpec.ofChange dozenWeighsWrong)

/-- 'smaltolaw09.DozenTruth': WHATEVER THE INPUT: true; the input reads as it did. -/
def dozenTruthSpec : ChangeSpec := { name := "dozenTruth", fn := fun _ => fun
  | [d1, d2] => { results := [.lit (.bool true)], args := [d1, d2] }
  | _ => none }
def dozenTruthRow : OpenClaim := { program := "ytcmfnebcmmklkaadoor", sum := "453767ccb5d4b488ffc0e8e1ed93282fd6734e476760c99779764ba32a4e2ea5", func := "smalto/smaltolaw09.DozenTruth", spec := "dozenTruth", unfollowed := true, recurses := true, named := ["math/bits.deBruijn32tab", "math/bits.deBruijn64tab"], plainKeys := false, apart := false, laid := [("math/bits.deBruijn32tab", laid_math_bits_deBruijn32tab), ("math/bits.deBruijn64tab", laid_math_bits_deBruijn64tab)] }
def DozenTruthSaid : Prop := dozenTruthRow.holds Tryd.pinned (OpenSpec.ofChange dozenTruthSpec)

/-- ITS FALSE NEIGHBOUR: 'it returns false'. Refute it at one input. -/
def dozenTruthWrong : ChangeSpec := { name := "dozenTruth", fn := fun _ => fun
  | [d1, d2] => { results := [.lit (.bool false)], args := [d1, d2] }
  | _ => none }
def DozenTruthWrongFalsely : Prop := dozenTruthRow.holds Tryd.pinned (OpenSpec.ofChange dozenTruthWrong)

/-- 'smaltolaw09.DozenEnds': WHATEVER THE INPUT: true; the input reads as it did. -/
def dozenEndsSpec : ChangeSpec := { name := "dozenEnds", fn := fun _ => fun
  | [d1, d2] => { results := [.lit (.bool true)], args := [d1, d2] }
  | _ => none }
def dozenEndsRow : OpenClaim := { program := "ytcmfnebcmmklkaadoor", sum := "453767ccb5d4b488ffc0e8e1ed93282fd6734e476760c99779764ba32a4e2ea5", func := "smalto/smaltolaw09.DozenEnds", spec := "dozenEnds", unfollowed := true, recurses := true, named := ["math/bits.deBruijn32tab", "math/bits.deBruijn64tab"], plainKeys := false, apart := false, laid := [("math/bits.deBruijn32tab", laid_math_bits_deBruijn32tab), ("math/bits.deBruijn64tab", laid_math_bits_deBruijn64tab)] }
def DozenEndsSaid : Prop := dozenEndsRow.holds Tryd.pinned (OpenSpec.ofChange dozenEndsSpec)

/-- ITS FALSE NEIGHBOUR: 'it returns false'. Refute it at one input. -/
def dozenEndsWrong : ChangeSpec := { name := "dozenEnds", fn := fun _ => fun
  | [d1, d2] => { results := [.lit (.bool false)], args := [d1, d2] }
  | _ => none }
def DozenEndsWrongFalsely : Prop := dozenEndsRow.holds Tryd.pinned (OpenSpec.ofChange dozenEndsWrong)

/-- 'smaltolaw09.DozenFilled': WHATEVER THE INPUT: true; the input reads as it did. -/
def dozenFilledSpec : ChangeSpec := { name := "dozenFilled", fn := fun _ => fun
  | [d1, d2, d3] => { results := [.lit (.bool true)], args := [d1, d2, d3] }
  | _ => none }
def dozenFilledRow : OpenClaim := { program := "ytcmfnebcmmklkaadoor", sum := "453767ccb5d4b488ffc0e8e1ed93282fd6734e476760c99779764ba32a4e2ea5", func := "smalto/smaltolaw09.DozenFilled", spec := "dozenFilled", unfollowed := true, recurses := true, named := ["math/bits.deBruijn32tab", "math/bits.deBruijn64tab"], plainKeys := false, apart := false, laid := [("math/bits.deBruijn32tab", laid_math_bits_deBruijn32tab), ("math/bits.deBruijn64tab", laid_math_bits_deBruijn64tab)] }
def DozenFilledSaid : Prop := dozenFilledRow.holds Tryd.pinned (OpenSpec.ofChange dozenFilledSpec)

/-- ITS FALSE NEIGHBOUR: 'it returns false'. Refute it at one input. -/
def dozenFilledWrong : ChangeSpec := { name := "dozenFilled", fn := fun _ => fun
  | [d1, d2, d3] => { results := [.lit (.bool false)], args := [d1, d2, d3] }
  | _ => none }
def DozenFilledWrongFalsely : Prop := dozenFilledRow.holds Tryd.pinned (OpenSpec.ofChange dozenFilledWrong)

/-- 'smaltolaw09.DozenBad': WHATEVER THE INPUT: true; the input reads as it did. -/
def dozenBadSpec : ChangeSpec := { name := "dozenBad", fn := fun _ => fun
  | [d1, d2] => { results := [.lit (.bool true)], args := [d1, d2] }
  | _ => none }
def dozenBadRow : OpenClaim := { program := "ytcmfnebcmmklkaadoor", sum := "453767ccb5d4b488ffc0e8e1ed93282fd6734e476760c99779764ba32a4e2ea5", func := "smalto/smaltolaw09.DozenBad", spec := "dozenBad", unfollowed := true, recurses := true, named := ["math/bits.deBruijn32tab", "math/bits.deBruijn64tab"], plainKeys := false, apart := false, laid := [("math/bits.deBruijn32tab", laid_math_bits_deBruijn32tab), ("math/bits.deBruijn64tab", laid_math_bits_deBruijn64tab)] }
def DozenBadSaid : Prop := dozenBadRow.holds Tryd.pinned (OpenSpec.ofChange dozenBadSpec)

/-- ITS FALSE NEIGHBOUR: 'it returns false'. Refute it at one input. -/
def dozenBadWrong : ChangeSpec := { name := "dozenBad", fn := fun _ => fun
  | [d1, d2] => { results := [.lit (.bool false)], args := [d1, d2] }
  | _ => none }
def DozenBadWrongFalsely : Prop := dozenBadRow.holds Tryd.pinned (OpenSpec.ofChange dozenBadWrong)

/-- 'smaltolaw09.DozenMixed': WHATEVER THE INPUT: true; the input reads as it did. -/
def dozenMixedSpec : ChangeSpec := { name := "dozenMixed", fn := fun _ => fun
  | [d] => { results := [.lit (.bool true)], args := [d] }
  | _ => none }
def dozenMixedRow : OpenClaim := { program := "ytcmfnebcmmklkaadoor", sum := "453767ccb5d4b488ffc0e8e1ed93282fd6734e476760c99779764ba32a4e2ea5", func := "smalto/smaltolaw09.DozenMixed", spec := "dozenMixed", unfollowed := true, recurses := true, named := ["math/bits.deBruijn32tab", "math/bits.deBruijn64tab"], plainKeys := false, apart := false, laid := [("math/bits.deBruijn32tab", laid_math_bits_deBruijn32tab), ("math/bits.deBruijn64tab", laid_math_bits_deBruijn64tab)] }
def DozenMixedSaid : Prop := dozenMixedRow.holds Tryd.pinned (OpenSpec.ofChange dozenMixedSpec)

/-- ITS FALSE NEIGHBOUR: 'it returns false'. Refute it at one input. -/
def dozenMixedWrong : ChangeSpec := { name := "dozenMixed", fn := fun _ => fun
  | [d] => { results := [.lit (.bool false)], args := [d] }
  | _ => none }
def DozenMixedWrongFalsely : Prop := dozenMixedRow.holds Tryd.pinned (OpenSpec.ofChange dozenMixedWrong)

/-- 'smaltolaw09.DozenMisread': WHATEVER THE INPUT: true; the input reads as it did. -/
def dozenMisreadSpec : ChangeSpec := { name := "dozenMisread", fn := fun _ => fun
  | [d1, d2] => { results := [.lit (.bool true)], args := [d1, d2] }
  | _ => none }
def dozenMisreadRow : OpenClaim := { program := "ytcmfnebcmmklkaadoor", sum := "453767ccb5d4b488ffc0e8e1ed93282fd6734e476760c99779764ba32a4e2ea5", func := "smalto/smaltolaw09.DozenMisread", spec := "dozenMisread", unfollowed := true, recurses := true, named := ["math/bits.deBruijn32tab", "math/bits.deBruijn64tab"], plainKeys := false, apart := false, laid := [("math/bits.deBruijn32tab", laid_math_bits_deBruijn32tab), ("math/bits.deBruijn64tab", laid_math_bits_deBruijn64tab)] }
def DozenMisreadSaid : Prop := dozenMisreadRow.holds Tryd.pinned (OpenSpec.ofChange dozenMisreadSpec)

/-- ITS FALSE NEIGHBOUR: 'it returns false'. Refute it at one input. -/
def dozenMisreadWrong : ChangeSpec := { name := "dozenMisread", fn := fun _ => fun
  | [d1, d2] => { results := [.lit (.bool false)], args := [d1, d2] }
  | _ => none }
def DozenMisreadWrongFalsely : Prop := dozenMisreadRow.holds Tryd.pinned (OpenSpec.ofChange dozenMisreadWrong)

/- THE SECOND FORM. 'bulk': how many values and letters a reading holds, each counted each time it is reached (what is shared counts as often as it is met; a slice's spare places count too). A statement '..UptoSaid' is the law's where the arguments, and the package variables that the reading takes, are together of bulk at most 1048576: NARROWER than '..Said'. Prove '..Said' where nothing that the law and all that it calls make is longer than what came in: it says more and counts as full. Else prove '..UptoSaid'. A law counts once. -/
mutual
def uptoBulk {H : Type} : DataW H → Nat
  | .lit (.string bytes) => bytes.length + 1
  | .lit _ => 1
  | .nil => 1
  | .ptr d => uptoBulk d + 1
  | .slice elems spare => uptoBulkAll elems + uptoBulkAll spare + 1
  | .agg parts => uptoBulkAll parts + 1
  | .iface _ d => uptoBulk d + 1
  | .map entries => uptoBulkEntries entries + 1
  | .held _ => 1
def uptoBulkAll {H : Type} : List (DataW H) → Nat
  | [] => 0
  | d :: r => uptoBulk d + uptoBulkAll r
def uptoBulkEntries {H : Type} : List (Lit × DataW H) → Nat
  | [] => 0
  | x :: r => uptoBulkEntry x + uptoBulkEntries r
def uptoBulkEntry {H : Type} : Lit × DataW H → Nat
  | (.string bytes, d) => bytes.length + uptoBulk d + 1
  | (_, d) => uptoBulk d + 1
 end
def uptoSmall : (H : Type) → List (DataW H) → Bool := fun _ ds => decide (uptoBulkAll ds ≤ 1048576)
def OpenSpec.upto (s : _root_.Go.ChangeSpec) : _root_.Go.OpenSpec := { _root_.Go.OpenSpec.ofChange s with cond := some uptoSmall }

/-- 'smaltolaw09.DozenLots', WHERE WHAT IT READS IS OF BULK AT MOST 1048576: true; the input reads as it did. -/
def dozenLotsUptoRow : OpenClaim := { program := "ytcmfnebcmmklkaadoor", sum := "453767ccb5d4b488ffc0e8e1ed93282fd6734e476760c99779764ba32a4e2ea5", func := "smalto/smaltolaw09.DozenLots", spec := "dozenLots", unfollowed := true, recurses := true, named := ["math/bits.deBruijn32tab", "math/bits.deBruijn64tab"], plainKeys := false, apart := false, laid := [("math/bits.deBruijn32tab", laid_math_bits_deBruijn32tab), ("math/bits.deBruijn64tab", laid_math_bits_deBruijn64tab)], narrowed := true }
def DozenLotsUptoSaid : Prop := dozenLotsUptoRow.holds Tryd.pinned (OpenSpec.upto dozenLotsSpec)

/-- 'smaltolaw09.DozenWrongs', WHERE WHAT IT READS IS OF BULK AT MOST 1048576: true; the input reads as it did. -/
def dozenWrongsUptoRow : OpenClaim := { program := "ytcmfnebcmmklkaadoor", sum := "453767ccb5d4b488ffc0e8e1ed93282fd6734e476760c99779764ba32a4e2ea5", func := "smalto/smaltolaw09.DozenWrongs", spec := "dozenWrongs", unfollowed := true, recurses := true, named := ["math/bits.deBruijn32tab", "math/bits.deBruijn64tab"], plainKeys := false, apart := false, laid := [("math/bits.deBruijn32tab", laid_math_bits_deBruijn32tab), ("math/bits.deBruijn64tab", laid_math_bits_deBruijn64tab)], narrowed := true }
def DozenWrongsUptoSaid : Prop := dozenWrongsUptoRow.holds Tryd.pinned (OpenSpec.upto dozenWrongsSpec)

/-- 'smaltolaw09.DozenFills', WHERE WHAT IT READS IS OF BULK AT MOST 1048576: true; the input reads as it did. -/
def dozenFillsUptoRow : OpenClaim := { program := "ytcmfnebcmmklkaadoor", sum := "453767ccb5d4b488ffc0e8e1ed93282fd6734e476760c99779764ba32a4e2ea5", func := "smalto/smaltolaw09.DozenFills", spec := "dozenFills", unfollowed := true, recurses := true, named := ["math/bits.deBruijn32tab", "math/bits.deBruijn64tab"], plainKeys := false, apart := false, laid := [("math/bits.deBruijn32tab", laid_math_bits_deBruijn32tab), ("math/bits.deBruijn64tab", laid_math_bits_deBruijn64tab)], narrowed := true }
def DozenFillsUptoSaid : Prop := dozenFillsUptoRow.holds Tryd.pinned (OpenSpec.upto dozenFillsSpec)

/-- 'smaltolaw09.DozenCrates', WHERE WHAT IT READS IS OF BULK AT MOST 1048576: true; the input reads as it did. -/
def dozenCratesUptoRow : OpenClaim := { program := "ytcmfnebcmmklkaadoor", sum := "453767ccb5d4b488ffc0e8e1ed93282fd6734e476760c99779764ba32a4e2ea5", func := "smalto/smaltolaw09.DozenCrates", spec := "dozenCrates", unfollowed := true, recurses := true, named := ["math/bits.deBruijn32tab", "math/bits.deBruijn64tab"], plainKeys := false, apart := false, laid := [("math/bits.deBruijn32tab", laid_math_bits_deBruijn32tab), ("math/bits.deBruijn64tab", laid_math_bits_deBruijn64tab)], narrowed := true }
def DozenCratesUptoSaid : Prop := dozenCratesUptoRow.holds Tryd.pinned (OpenSpec.upto dozenCratesSpec)

/-- 'smaltolaw09.DozenWeighs', WHERE WHAT IT READS IS OF BULK AT MOST 1048576: true; the input reads as it did. -/
def dozenWeighsUptoRow : OpenClaim := { program := "ytcmfnebcmmklkaadoor", sum := "453767ccb5d4b488ffc0e8e1ed93282fd6734e476760c99779764ba32a4e2ea5", func := "smalto/smaltolaw09.DozenWeighs", spec := "dozenWeighs", unfollowed := true, recurses := true, named := ["math/bits.deBruijn32tab", "math/bits.deBruijn64tab"], plainKeys := false, apart := false, laid := [("math/bits.deBruijn32tab", laid_math_bits_deBruijn32tab), ("math/bits.deBruijn64tab", laid_math_bits_deBruijn64tab)], narrowed := true }
def DozenWeighsUptoSaid : Prop := dozenWeighsUptoRow.holds Tryd.pinned (OpenSpec.upto dozenWeighsSpec)

/-- 'smaltolaw09.DozenTruth', WHERE WHAT IT READS IS OF BULK AT MOST 1048576: true; the input reads as it did. -/
def dozenTruthUptoRow : OpenClaim := { program := "ytcmfnebcmmklkaadoor", sum := "453767ccb5d4b488ffc0e8e1ed93282fd6734e476760c99779764ba32a4e2ea5", func := "smalto/smaltolaw09.DozenTruth", spec := "dozenTruth", unfollowed := true, recurses := true, named := ["math/bits.deBruijn32tab", "math/bits.deBruijn64tab"], plainKeys := false, apart := false, laid := [("math/bits.deBruijn32tab", laid_math_bits_deBruijn32tab), ("math/bits.deBruijn64tab", laid_math_bits_deBruijn64tab)], narrowed := true }
def DozenTruthUptoSaid : Prop := dozenTruthUptoRow.holds Tryd.pinned (OpenSpec.upto dozenTruthSpec)

/-- 'smaltolaw09.DozenEnds', WHERE WHAT IT READS IS OF BULK AT MOST 1048576: true; the input reads as it did. -/
def dozenEndsUptoRow : OpenClaim := { program := "ytcmfnebcmmklkaadoor", sum := "453767ccb5d4b488ffc0e8e1ed93282fd6734e476760c99779764ba32a4e2ea5", func := "smalto/smaltolaw09.DozenEnds", spec := "dozenEnds", unfollowed := true, recurses := true, named := ["math/bits.deBruijn32tab", "math/bits.deBruijn64tab"], plainKeys := false, apart := false, laid := [("math/bits.deBruijn32tab", laid_math_bits_deBruijn32tab), ("math/bits.deBruijn64tab", laid_math_bits_deBruijn64tab)], narrowed := true }
def DozenEndsUptoSaid : Prop := dozenEndsUptoRow.holds Tryd.pinned (OpenSpec.upto dozenEndsSpec)

/-- 'smaltolaw09.DozenFilled', WHERE WHAT IT READS IS OF BULK AT MOST 1048576: true; the input reads as it did. -/
def dozenFilledUptoRow : OpenClaim := { program := "ytcmfnebcmmklkaadoor", sum := "453767ccb5d4b488ffc0e8e1ed93282fd6734e476760c99779764ba32a4e2ea5", func := "smalto/smaltolaw09.DozenFilled", spec := "dozenFilled", unfollowed := true, recurses := true, named := ["math/bits.deBruijn32tab", "math/bits.deBruijn64tab"], plainKeys := false, apart := false, laid := [("math/bits.deBruijn32tab", laid_math_bits_deBruijn32tab), ("math/bits.deBruijn64tab", laid_math_bits_deBruijn64tab)], narrowed := true }
def DozenFilledUptoSaid : Prop := dozenFilledUptoRow.holds Tryd.pinned (OpenSpec.upto dozenFilledSpec)

/-- 'smaltolaw09.DozenBad', WHERE WHAT IT READS IS OF BULK AT MOST 1048576: true; the input reads as it did. -/
def dozenBadUptoRow : OpenClaim := { program := "ytcmfnebcmmklkaadoor", sum := "453767ccb5d4b488ffc0e8e1ed93282fd6734e476760c99779764ba32a4e2ea5", func := "smalto/smaltolaw09.DozenBad", spec := "dozenBad", unfollowed := true, recurses := true, named := ["math/bits.deBruijn32tab", "math/bits.deBruijn64tab"], plainKeys := false, apart := false, laid := [("math/bits.deBruijn32tab", laid_math_bits_deBruijn32tab), ("math/bits.deBruijn64tab", laid_math_bits_deBruijn64tab)], narrowed := true }
def DozenBadUptoSaid : Prop := dozenBadUptoRow.holds Tryd.pinned (OpenSpec.upto dozenBadSpec)

/-- 'smaltolaw09.DozenMixed', WHERE WHAT IT READS IS OF BULK AT MOST 1048576: true; the input reads as it did. -/
def dozenMixedUptoRow : OpenClaim := { program := "ytcmfnebcmmklkaadoor", sum := "453767ccb5d4b488ffc0e8e1ed93282fd6734e476760c99779764ba32a4e2ea5", func := "smalto/smaltolaw09.DozenMixed", spec := "dozenMixed", unfollowed := true, recurses := true, named := ["math/bits.deBruijn32tab", "math/bits.deBruijn64tab"], plainKeys := false, apart := false, laid := [("math/bits.deBruijn32tab", laid_math_bits_deBruijn32tab), ("math/bits.deBruijn64tab", laid_math_bits_deBruijn64tab)], narrowed := true }
def DozenMixedUptoSaid : Prop := dozenMixedUptoRow.holds Tryd.pinned (OpenSpec.upto dozenMixedSpec)

/-- 'smaltolaw09.DozenMisread', WHERE WHAT IT READS IS OF BULK AT MOST 1048576: true; the input reads as it did. -/
def dozenMisreadUptoRow : OpenClaim := { program := "ytcmfnebcmmklkaadoor", sum := "453767ccb5d4b488ffc0e8e1ed93282fd6734e476760c99779764ba32a4e2ea5", func := "smalto/smaltolaw09.DozenMisread", spec := "dozenMisread", unfollowed := true, recurses := true, named := ["math/bits.deBruijn32tab", "math/bits.deBruijn64tab"], plainKeys := false, apart := false, laid := [("math/bits.deBruijn32tab", laid_math_bits_deBruijn32tab), ("math/bits.deBruijn64tab", laid_math_bits_deBruijn64tab)], narrowed := true }
def DozenMisreadUptoSaid : Prop := dozenMisreadUptoRow.holds Tryd.pinned (OpenSpec.upto dozenMisreadSpec)

end Rows
end Go.Proofs.YtcmfnebcmmklkaaDoor
