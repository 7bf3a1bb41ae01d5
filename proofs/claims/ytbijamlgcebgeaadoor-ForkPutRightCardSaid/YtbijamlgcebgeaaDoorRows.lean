/-
  NARROWER THAN 'FOR EVERY INPUT', by the rows' own cells (each row's printed sentence says how): ForkGoes: laid · ForkStills: laid · ForkLoads: laid · ForkAparts: laid · ForkPuts: laid · ForkRight: laid · ForkFew: laid · ForkBarred: laid · ForkCost: laid · ForkPutRight: laid.
  DERIVED. THE GIVEN ROWS OF THIS SEAT. 10 by the template 'for every input the law returns true; each argument reads behind the call as it read before'; 0 by the template 'total and deterministic' (their statements: YtbijamlgcebgeaaDoorTotals.lean).
  GIVEN WITH THE SEED: the statements are not yours to turn. If you find one false, say at which input.
  Laid BY PROGRAM, IN A SANDBOX (cutbox-rows.mjs): the forced cells as the released guide's own fill.sh prints them over the translation f0a450314b7bb80e… (all of the seat's roots in one cut). By AI agents, Wed Nov 11 2026. No macro, syntax, notation, axiom, sorry.
-/
import Derived.Test.YtbijamlgcebgeaaDoorChecked
import GoSem.Claim
import GoSem.ClaimJoined
import GoSem.ClaimMapViews
import Derived.JoinedTies
import Derived.KernelRfl
namespace Go.Proofs.YtbijamlgcebgeaaDoor
/- THE CELL 'sum', in the pinned program and in every row, IS THE sha256 OF THE DUMP (.gsa) THAT YtbijamlgcebgeaaDoorProg.lean LOADS. Nothing in Lean hashes anything: it is a label: what it is worth is what the hold of that sum in a sandbox is worth. -/
noncomputable def Tryd.pinned : Pinned := { name := "ytbijamlgcebgeaadoor", sum := "f0a450314b7bb80e8e802f7a82ea0db8d5cf916d798c64eb9c9f3612a7fbf474", checked := Tryd.checked }
namespace Rows
def none {H : Type} : Left H := { results := [], args := [] }

/- WHAT THE LISTED PACKAGE-LEVEL VARIABLES READ AS WHEN THE CALL BEGINS. Each datum BY PROGRAM (the guide's laid-datum.mjs) off the statement by which the dump's own 'gosem.cut.vars' lays the variable. In a bare row this is a premise. The card (YtbijamlgcebgeaaDoorCards.lean) ties it to the program's text. -/
def laid_math_bits_deBruijn32tab {H : Type} : DataW H := .agg [.lit (.int .u8 0), .lit (.int .u8 1), .lit (.int .u8 28), .lit (.int .u8 2), .lit (.int .u8 29), .lit (.int .u8 14), .lit (.int .u8 24), .lit (.int .u8 3), .lit (.int .u8 30), .lit (.int .u8 22), .lit (.int .u8 20), .lit (.int .u8 15), .lit (.int .u8 25), .lit (.int .u8 17), .lit (.int .u8 4), .lit (.int .u8 8), .lit (.int .u8 31), .lit (.int .u8 27), .lit (.int .u8 13), .lit (.int .u8 23), .lit (.int .u8 21), .lit (.int .u8 19), .lit (.int .u8 16), .lit (.int .u8 7), .lit (.int .u8 26), .lit (.int .u8 12), .lit (.int .u8 18), .lit (.int .u8 6), .lit (.int .u8 11), .lit (.int .u8 5), .lit (.int .u8 10), .lit (.int .u8 9)]
def laid_math_bits_deBruijn64tab {H : Type} : DataW H := .agg [.lit (.int .u8 0), .lit (.int .u8 1), .lit (.int .u8 56), .lit (.int .u8 2), .lit (.int .u8 57), .lit (.int .u8 49), .lit (.int .u8 28), .lit (.int .u8 3), .lit (.int .u8 61), .lit (.int .u8 58), .lit (.int .u8 42), .lit (.int .u8 50), .lit (.int .u8 38), .lit (.int .u8 29), .lit (.int .u8 17), .lit (.int .u8 4), .lit (.int .u8 62), .lit (.int .u8 47), .lit (.int .u8 59), .lit (.int .u8 36), .lit (.int .u8 45), .lit (.int .u8 43), .lit (.int .u8 51), .lit (.int .u8 22), .lit (.int .u8 53), .lit (.int .u8 39), .lit (.int .u8 33), .lit (.int .u8 30), .lit (.int .u8 24), .lit (.int .u8 18), .lit (.int .u8 12), .lit (.int .u8 5), .lit (.int .u8 63), .lit (.int .u8 55), .lit (.int .u8 48), .lit (.int .u8 27), .lit (.int .u8 60), .lit (.int .u8 41), .lit (.int .u8 37), .lit (.int .u8 16), .lit (.int .u8 46), .lit (.int .u8 35), .lit (.int .u8 44), .lit (.int .u8 21), .lit (.int .u8 52), .lit (.int .u8 32), .lit (.int .u8 23), .lit (.int .u8 11), .lit (.int .u8 54), .lit (.int .u8 26), .lit (.int .u8 40), .lit (.int .u8 15), .lit (.int .u8 34), .lit (.int .u8 20), .lit (.int .u8 31), .lit (.int .u8 10), .lit (.int .u8 25), .lit (.int .u8 14), .lit (.int .u8 19), .lit (.int .u8 9), .lit (.int .u8 13), .lit (.int .u8 8), .lit (.int .u8 7), .lit (.int .u8 6)]

/-- 'smaltolaw03.ForkGoes': WHATEVER THE INPUT: true; the input reads as it did. -/
def forkGoesSpec : ChangeSpec := { name := "forkGoes", fn := fun _ => fun
  | [d1, d2, d3] => { results := [.lit (.bool true)], args := [d1, d2, d3] }
  | _ => none }
def forkGoesRow : OpenClaim := { program := "ytbijamlgcebgeaadoor", sum := "f0a450314b7bb80e8e802f7a82ea0db8d5cf916d798c64eb9c9f3612a7fbf474", func := "smalto/smaltolaw03.ForkGoes", spec := "forkGoes", unfollowed := true, recurses := true, named := ["math/bits.deBruijn32tab", "math/bits.deBruijn64tab"], apart := false, laid := [("math/bits.deBruijn32tab", laid_math_bits_deBruijn32tab), ("math/bits.deBruijn64tab", laid_math_bits_deBruijn64tab)] }
def ForkGoesSaid : Prop := forkGoesRow.holds Tryd.pinned (OpenSpec.ofChange forkGoesSpec)

/-- ITS FALSE NEIGHBOUR: 'it returns false'. Refute it at one input. -/
def forkGoesWrong : ChangeSpec := { name := "forkGoes", fn := fun _ => fun
  | [d1, d2, d3] => { results := [.lit (.bool false)], args := [d1, d2, d3] }
  | _ => none }
def ForkGoesWrongFalsely : Prop := forkGoesRow.holds Tryd.pinned (OpenSpec.ofChange forkGoesWrong)

/-- 'smaltolaw03.ForkStills': WHATEVER THE INPUT: true; the input reads as it did. -/
def forkStillsSpec : ChangeSpec := { name := "forkStills", fn := fun _ => fun
  | [d1, d2, d3] => { results := [.lit (.bool true)], args := [d1, d2, d3] }
  | _ => none }
def forkStillsRow : OpenClaim := { program := "ytbijamlgcebgeaadoor", sum := "f0a450314b7bb80e8e802f7a82ea0db8d5cf916d798c64eb9c9f3612a7fbf474", func := "smalto/smaltolaw03.ForkStills", spec := "forkStills", unfollowed := true, recurses := true, named := ["math/bits.deBruijn32tab", "math/bits.deBruijn64tab"], apart := false, laid := [("math/bits.deBruijn32tab", laid_math_bits_deBruijn32tab), ("math/bits.deBruijn64tab", laid_math_bits_deBruijn64tab)] }
def ForkStillsSaid : Prop := forkStillsRow.holds Tryd.pinned (OpenSpec.ofChange forkStillsSpec)

/-- ITS FALSE NEIGHBOUR: 'it returns false'. Refute it at one input. -/
def forkStillsWrong : ChangeSpec := { name := "forkStills", fn := fun _ => fun
  | [d1, d2, d3] => { results := [.lit (.bool false)], args := [d1, d2, d3] }
  | _ => none }
def ForkStillsWrongFalsely : Prop := forkStillsRow.holds Tryd.pinned (OpenSpec.ofChange forkStillsWrong)

/-- 'smaltolaw03.ForkLoads': WHATEVER THE INPUT: true; the input reads as it did. -/
def forkLoadsSpec : ChangeSpec := { name := "forkLoads", fn := fun _ => fun
  | [d1, d2] => { results := [.lit (.bool true)], args := [d1, d2] }
  | _ => none }
def forkLoadsRow : OpenClaim := { program := "ytbijamlgcebgeaadoor", sum := "f0a450314b7bb80e8e802f7a82ea0db8d5cf916d798c64eb9c9f3612a7fbf474", func := "smalto/smaltolaw03.ForkLoads", spec := "forkLoads", unfollowed := true, recurses := true, named := ["math/bits.deBruijn32tab", "math/bits.deBruijn64tab"], apart := false, laid := [("math/bits.deBruijn32tab", laid_math_bits_deBruijn32tab), ("math/bits.deBruijn64tab", laid_math_bits_deBruijn64tab)] }
def ForkLoadsSaid : Prop := forkLoadsRow.holds Tryd.pinned (OpenSpec.ofChange forkLoadsSpec)

/-- ITS FALSE NEIGHBOUR: 'it returns false'. Refute it at one input. -/
def forkLoadsWrong : ChangeSpec := { name := "forkLoads", fn := fun _ => fun
  | [d1, d2] => { results := [.lit (.bool false)], args := [d1, d2] }
  | _ => none }
def ForkLoadsWrongFalsely : Prop := forkLoadsRow.holds Tryd.pinned (OpenSpec.ofChange forkLoadsWrong)

/-- 'smaltolaw03.ForkAparts': WHATEVER THE INPUT: true; the input reads as it did. -/
def forkApartsSpec : ChangeSpec := { name := "forkAparts", fn := fun _ => fun
  | [d1, d2] => { results := [.lit (.bool true)], args := [d1, d2] }
  | _ => none }
def forkApartsRow : OpenClaim := { program := "ytbijamlgcebgeaadoor", sum := "f0a450314b7bb80e8e802f7a82ea0db8d5cf916d798c64eb9c9f3612a7fbf474", func := "smalto/smaltolaw03.ForkAparts", spec := "forkAparts", unfollowed := true, recurses := true, named := ["math/bits.deBruijn32tab", "math/bits.deBruijn64tab"], apart := false, laid := [("math/bits.deBruijn32tab", laid_math_bits_deBruijn32tab), ("math/bits.deBruijn64tab", laid_math_bits_deBruijn64tab)] }
def ForkApartsSaid : Prop := forkApartsRow.holds Tryd.pinned (OpenSpec.ofChange forkApartsSpec)

/-- ITS FALSE NEIGHBOUR: 'it returns false'. Refute it at one input. -/
def forkApartsWrong : ChangeSpec := { name := "forkAparts", fn := fun _ => fun
  | [d1, d2] => { results := [.lit (.bool false)], args := [d1, d2] }
  | _ => none }
def ForkApartsWrongFalsely : Prop := forkApartsRow.holds Tryd.pinned (OpenSpec.ofChange forkApartsWrong)

/-- 'smaltolaw03.ForkPuts': WHATEVER THE INPUT: true; the input reads as it did. -/
def forkPutsSpec : ChangeSpec := { name := "forkPuts", fn := fun _ => fun
  | [d1, d2, d3] => { results := [.lit (.bool true)], args := [d1, d2, d3] }
  | _ => none }
def forkPutsRow : OpenClaim := { program := "ytbijamlgcebgeaadoor", sum := "f0a450314b7bb80e8e802f7a82ea0db8d5cf916d798c64eb9c9f3612a7fbf474", func := "smalto/smaltolaw03.ForkPuts", spec := "forkPuts", unfollowed := true, recurses := true, named := ["math/bits.deBruijn32tab", "math/bits.deBruijn64tab"], apart := false, laid := [("math/bits.deBruijn32tab", laid_math_bits_deBruijn32tab), ("math/bits.deBruijn64tab", laid_math_bits_deBruijn64tab)] }
def ForkPutsSaid : Prop := forkPutsRow.holds Tryd.pinned (OpenSpec.ofChange forkPutsSpec)

/-- ITS FALSE NEIGHBOUR: 'it returns false'. Refute it at one input. -/
def forkPutsWrong : ChangeSpec := { name := "forkPuts", fn := fun _ => fun
  | [d1, d2, d3] => { results := [.lit (.bool false)], args := [d1, d2, d3] }
  | _ => none }
def ForkPutsWrongFalsely : Prop := forkPutsRow.holds Tryd.pinned (OpenSpec.ofChange forkPutsWrong)

/-- 'smaltolaw03.ForkRight': WHATEVER THE INPUT: true; the input reads as it did. -/
def forkRightSpec : ChangeSpec := { name := "forkRight", fn := fun _ => fun
  | [d1, d2, d3] => { results := [.lit (.bool true)], args := [d1, d2, d3] }
  | _ => none }
def forkRightRow : OpenClaim := { program := "ytbijamlgcebgeaadoor", sum := "f0a450314b7bb80e8e802f7a82ea0db8d5cf916d798c64eb9c9f3612a7fbf474", func := "smalto/smaltolaw03.ForkRight", spec := "forkRight", unfollowed := true, recurses := true, named := ["math/bits.deBruijn32tab", "math/bits.deBruijn64tab"], apart := false, laid := [("math/bits.deBruijn32tab", laid_math_bits_deBruijn32tab), ("math/bits.deBruijn64tab", laid_math_bits_deBruijn64tab)] }
def ForkRightSaid : Prop := forkRightRow.holds Tryd.pinned (OpenSpec.ofChange forkRightSpec)

/-- ITS FALSE NEIGHBOUR: 'it returns false'. Refute it at one input. -/
def forkRightWrong : ChangeSpec := { name := "forkRight", fn := fun _ => fun
  | [d1, d2, d3] => { results := [.lit (.bool false)], args := [d1, d2, d3] }
  | _ => none }
def ForkRightWrongFalsely : Prop := forkRightRow.holds Tryd.pinned (OpenSpec.ofChange forkRightWrong)

/-- 'smaltolaw03.ForkFew': WHATEVER THE INPUT: true; the input reads as it did. -/
def forkFewSpec : ChangeSpec := { name := "forkFew", fn := fun _ => fun
  | [d1, d2, d3] => { results := [.lit (.bool true)], args := [d1, d2, d3] }
  | _ => none }
def forkFewRow : OpenClaim := { program := "ytbijamlgcebgeaadoor", sum := "f0a450314b7bb80e8e802f7a82ea0db8d5cf916d798c64eb9c9f3612a7fbf474", func := "smalto/smaltolaw03.ForkFew", spec := "forkFew", unfollowed := true, recurses := true, named := ["math/bits.deBruijn32tab", "math/bits.deBruijn64tab"], apart := false, laid := [("math/bits.deBruijn32tab", laid_math_bits_deBruijn32tab), ("math/bits.deBruijn64tab", laid_math_bits_deBruijn64tab)] }
def ForkFewSaid : Prop := forkFewRow.holds Tryd.pinned (OpenSpec.ofChange forkFewSpec)

/-- ITS FALSE NEIGHBOUR: 'it returns false'. Refute it at one input. -/
def forkFewWrong : ChangeSpec := { name := "forkFew", fn := fun _ => fun
  | [d1, d2, d3] => { results := [.lit (.bool false)], args := [d1, d2, d3] }
  | _ => none }
def ForkFewWrongFalsely : Prop := forkFewRow.holds Tryd.pinned (OpenSpec.ofChange forkFewWrong)

/-- 'smaltolaw03.ForkBarred': WHATEVER THE INPUT: true; the input reads as it did. -/
def forkBarredSpec : ChangeSpec := { name := "forkBarred", fn := fun _ => fun
  | [d1, d2] => { results := [.lit (.bool true)], args := [d1, d2] }
  | _ => none }
def forkBarredRow : OpenClaim := { program := "ytbijamlgcebgeaadoor", sum := "f0a450314b7bb80e8e802f7a82ea0db8d5cf916d798c64eb9c9f3612a7fbf474", func := "smalto/smaltolaw03.ForkBarred", spec := "forkBarred", unfollowed := true, recurses := true, named := ["math/bits.deBruijn32tab", "math/bits.deBruijn64tab"], apart := false, laid := [("math/bits.deBruijn32tab", laid_math_bits_deBruijn32tab), ("math/bits.deBruijn64tab", laid_math_bits_deBruijn64tab)] }
def ForkBarredSaid : Prop := forkBarredRow.holds Tryd.pinned (OpenSpec.ofChange forkBarredSpec)

/-- ITS FALSE NEIGHBOUR: 'it returns false'. Refute it at one input. -/
def forkBarredWrong : ChangeSpec := { name := "forkBarred", fn := fun _ => fun
  | [d1, d2] => { results := [.lit (.bool false)], args := [d1, d2] }
  | _ => none }
def ForkBarredWrongFalsely : Prop := forkBarredRow.holds Tryd.pinned (OpenSpec.ofChange forkBarredWrong)

/-- 'smaltolaw03.ForkCost': WHATEVER THE INPUT: true; the input reads as it did. -/
def forkCostSpec : ChangeSpec := { name := "forkCost", fn := fun _ => fun
  | [d] => { results := [.lit (.bool true)], args := [d] }
  | _ => none }
def forkCostRow : OpenClaim := { program := "ytbijamlgcebgeaadoor", sum := "f0a450314b7bb80e8e802f7a82ea0db8d5cf916d798c64eb9c9f3612a7fbf474", func := "smalto/smaltolaw03.ForkCost", spec := "forkCost", unfollowed := true, recurses := true, named := ["math/bits.deBruijn32tab", "math/bits.deBruijn64tab"], apart := false, laid := [("math/bits.deBruijn32tab", laid_math_bits_deBruijn32tab), ("math/bits.deBruijn64tab", laid_math_bits_deBruijn64tab)] }
def ForkCostSaid : Prop := forkCostRow.holds Tryd.pinned (OpenSpec.ofChange forkCostSpec)

/-- ITS FALSE NEIGHBOUR: 'it returns false'. Refute it at one input. -/
def forkCostWrong : ChangeSpec := { name := "forkCost", fn := fun _ => fun
  | [d] => { results := [.lit (.bool false)], args := [d] }
  | _ => none }
def ForkCostWrongFalsely : Prop := forkCostRow.holds Tryd.pinned (OpenSpec.ofChange forkCostWrong)

/-- 'smaltolaw03.ForkPutRight': WHATEVER THE INPUT: true; the input reads as it did. -/
def forkPutRightSpec : ChangeSpec := { name := "forkPutRight", fn := fun _ => fun
  | [d1, d2, d3] => { results := [.lit (.bool true)], args := [d1, d2, d3] }
  | _ => none }
def forkPutRightRow : OpenClaim := { program := "ytbijamlgcebgeaadoor", sum := "f0a450314b7bb80e8e802f7a82ea0db8d5cf916d798c64eb9c9f3612a7fbf474", func := "smalto/smaltolaw03.ForkPutRight", spec := "forkPutRight", unfollowed := true, recurses := true, named := ["math/bits.deBruijn32tab", "math/bits.deBruijn64tab"], apart := false, laid := [("math/bits.deBruijn32tab", laid_math_bits_deBruijn32tab), ("math/bits.deBruijn64tab", laid_math_bits_deBruijn64tab)] }
def ForkPutRightSaid : Prop := forkPutRightRow.holds Tryd.pinned (OpenSpec.ofChange forkPutRightSpec)

/-- ITS FALSE NEIGHBOUR: 'it returns false'. Refute it at one input. -/
def forkPutRightWrong : ChangeSpec := { name := "forkPutRight", fn := fun _ => fun
  | [d1, d2, d3] => { results := [.lit (.bool false)], args := [d1, d2, d3] }
  | _ => none }
def ForkPutRightWrongFalsely : Prop := forkPutRightRow.holds Tryd.pinned (OpenSpec.ofChange forkPutRightWrong)

/- THE SECOND FORM. 'bulk': how many values and letters a reading holds, each counted each time it is reached (what is shared counts as often as it is met; a slice's spare places count too). A statement '..UptoSaid' is the law's where the arguments, and the package variables that the reading takes, are together of bulk at most 1048576: NARROWER than '..Said'. Prove '..Said' where nothing that the law and all that it calls make is longer than what came in: it says more and counts as full. Else prove '..UptoSaid'. A law counts once. -/
mutual
def uptoBulk {H : Type} : DataW H → Nat
  | .lit (.string bytes) => bytes.length + 1
  | .lit _ => 1
  | .nil => 1
  | .ptr d => uptoBulk d + 1
  | .slice elems spare => uptoBulkAll elems + uptoBulkAll spare + 1
  | .agg parts => uptoBulkAll parts + 1
  | .iface _ d => uptoBulk d + 1
  | .map entries => uptoBulkEntries entries + 1
  | .held _ => 1
def uptoBulkAll {H : Type} : List (DataW H) → Nat
  | [] => 0
  | d :: r => uptoBulk d + uptoBulkAll r
def uptoBulkEntries {H : Type} : List (Lit × DataW H) → Nat
  | [] => 0
  | x :: r => uptoBulkEntry x + uptoBulkEntries r
def uptoBulkEntry {H : Type} : Lit × DataW H → Nat
  | (.string bytes, d) => bytes.length + uptoBulk d + 1
  | (_, d) => uptoBulk d + 1
 end
def uptoSmall : (H : Type) → List (DataW H) → Bool := fun _ ds => decide (uptoBulkAll ds ≤ 1048576)
def OpenSpec.upto (s : _root_.Go.ChangeSpec) : _root_.Go.OpenSpec := { _root_.Go.OpenSpec.ofChange s with cond := some uptoSmall }

/-- 'smaltolaw03.ForkGoes', WHERE WHAT IT READS IS OF BULK AT MOST 1048576: true; the input reads as it did. -/
def forkGoesUptoRow : OpenClaim := { program := "ytbijamlgcebgeaadoor", sum := "f0a450314b7bb80e8e802f7a82ea0db8d5cf916d798c64eb9c9f3612a7fbf474", func := "smalto/smaltolaw03.ForkGoes", spec := "forkGoes", unfollowed := true, recurses := true, named := ["math/bits.deBruijn32tab", "math/bits.deBruijn64tab"], apart := false, laid := [("math/bits.deBruijn32tab", laid_math_bits_deBruijn32tab), ("math/bits.deBruijn64tab", laid_math_bits_deBruijn64tab)], narrowed := true }
def ForkGoesUptoSaid : Prop := forkGoesUptoRow.holds Tryd.pinned (OpenSpec.upto forkGoesSpec)

/-- 'smaltolaw03.ForkStills', WHERE WHAT IT READS IS OF BULK AT MOST 1048576: true; the input reads as it did. -/
def forkStillsUptoRow : OpenClaim := { program := "ytbijamlgcebgeaadoor", sum := "f0a450314b7bb80e8e802f7a82ea0db8d5cf916d798c64eb9c9f3612a7fbf474", func := "smalto/smaltolaw03.ForkStills", spec := "forkStills", unfollowed := true, recurses := true, named := ["math/bits.deBruijn32tab", "math/bits.deBruijn64tab"], apart := false, laid := [("math/bits.deBruijn32tab", laid_math_bits_deBruijn32tab), ("math/bits.deBruijn64tab", laid_math_bits_deBruijn64tab)], narrowed := true }
def ForkStillsUptoSaid : Prop := forkStillsUptoRow.holds Tryd.pinned (OpenSpec.upto forkStillsSpec)

/-- 'smaltolaw03.ForkLoads', WHERE WHAT IT READS IS OF BULK AT MOST 1048576: true; the input reads as it did. -/
def forkLoadsUptoRow : OpenClaim := { program := "ytbijamlgcebgeaadoor", sum := "f0a450314b7bb80e8e802f7a82ea0db8d5cf916d798c64eb9c9f3612a7fbf474", func := "smalto/smaltolaw03.ForkLoads", spec := "forkLoads", unfollowed := true, recurses := true, named := ["math/bits.deBruijn32tab", "math/bits.deBruijn64tab"], apart := false, laid := [("math/bits.deBruijn32tab", laid_math_bits_deBruijn32tab), ("math/bits.deBruijn64tab", laid_math_bits_deBruijn64tab)], narrowed := true }
def ForkLoadsUptoSaid : Prop := forkLoadsUptoRow.holds Tryd.pinned (OpenSpec.upto forkLoadsSpec)

/-- 'smaltolaw03.ForkAparts', WHERE WHAT IT READS IS OF BULK AT MOST 1048576: true; the input reads as it did. -/
def forkApartsUptoRow : OpenClaim := { program := "ytbijamlgcebgeaadoor", sum := "f0a450314b7bb80e8e802f7a82ea0db8d5cf916d798c64eb9c9f3612a7fbf474", func := "smalto/smaltolaw03.ForkAparts", spec := "forkAparts", unfollowed := true, recurses := true, named := ["math/bits.deBruijn32tab", "math/bits.deBruijn64tab"], apart := false, laid := [("math/bits.deBruijn32tab", laid_math_bits_deBruijn32tab), ("math/bits.deBruijn64tab", laid_math_bits_deBruijn64tab)], narrowed := true }
def ForkApartsUptoSaid : Prop := forkApartsUptoRow.holds Tryd.pinned (OpenSpec.upto forkApartsSpec)

/-- 'smaltolaw03.ForkPuts', WHERE WHAT IT READS IS OF BULK AT MOST 1048576: true; the input reads as it did. -/
def forkPutsUptoRow : OpenClaim := { program := "ytbijamlgcebgeaadoor", sum := "f0a450314b7bb80e8e802f7a82ea0db8d5cf916d798c64eb9c9f3612a7fbf474", func := "smalto/smaltolaw03.ForkPuts", spec := "forkPuts", unfollowed := true, recurses := true, named := ["math/bits.deBruijn32tab", "math/bits.deBruijn64tab"], apart := false, laid := [("math/bits.deBruijn32tab", laid_math_bits_deBruijn32tab), ("math/bits.deBruijn64tab", laid_math_bits_deBruijn64tab)], narrowed := true }
def ForkPutsUptoSaid : Prop := forkPutsUptoRow.holds Tryd.pinned (OpenSpec.upto forkPutsSpec)

/-- 'smaltolaw03.ForkRight', WHERE WHAT IT READS IS OF BULK AT MOST 1048576: true; the input reads as it did. -/
def forkRightUptoRow : OpenClaim := { program := "ytbijamlgcebgeaadoor", sum := "f0a450314b7bb80e8e802f7a82ea0db8d5cf916d798c64eb9c9f3612a7fbf474", func := "smalto/smaltolaw03.ForkRight", spec := "forkRight", unfollowed := true, recurses := true, named := ["math/bits.deBruijn32tab", "math/bits.deBruijn64tab"], apart := false, laid := [("math/bits.deBruijn32tab", laid_math_bits_deBruijn32tab), ("math/bits.deBruijn64tab", laid_math_bits_deBruijn64tab)], narrowed := true }
def ForkRightUptoSaid : Prop := forkRightUptoRow.holds Tryd.pinned (OpenSpec.upto forkRightSpec)

/-- 'smaltolaw03.ForkFew', WHERE WHAT IT READS IS OF BULK AT MOST 1048576: true; the input reads as it did. -/
def forkFewUptoRow : OpenClaim := { program := "ytbijamlgcebgeaadoor", sum := "f0a450314b7bb80e8e802f7a82ea0db8d5cf916d798c64eb9c9f3612a7fbf474", func := "smalto/smaltolaw03.ForkFew", spec := "forkFew", unfollowed := true, recurses := true, named := ["math/bits.deBruijn32tab", "math/bits.deBruijn64tab"], apart := false, laid := [("math/bits.deBruijn32tab", laid_math_bits_deBruijn32tab), ("math/bits.deBruijn64tab", laid_math_bits_deBruijn64tab)], narrowed := true }
def ForkFewUptoSaid : Prop := forkFewUptoRow.holds Tryd.pinned (OpenSpec.upto forkFewSpec)

/-- 'smaltolaw03.ForkBarred', WHERE WHAT IT READS IS OF BULK AT MOST 1048576: true; the input reads as it did. -/
def forkBarredUptoRow : OpenClaim := { program := "ytbijamlgcebgeaadoor", sum := "f0a450314b7bb80e8e802f7a82ea0db8d5cf916d798c64eb9c9f3612a7fbf474", func := "smalto/smaltolaw03.ForkBarred", spec := "forkBarred", unfollowed := true, recurses := true, named := ["math/bits.deBruijn32tab", "math/bits.deBruijn64tab"], apart := false, laid := [("math/bits.deBruijn32tab", laid_math_bits_deBruijn32tab), ("math/bits.deBruijn64tab", laid_math_bits_deBruijn64tab)], narrowed := true }
def ForkBarredUptoSaid : Prop := forkBarredUptoRow.holds Tryd.pinned (OpenSpec.upto forkBarredSpec)

/-- 'smaltolaw03.ForkCost', WHERE WHAT IT READS IS OF BULK AT MOST 1048576: true; the input reads as it did. -/
def forkCostUptoRow : OpenClaim := { program := "ytbijamlgcebgeaadoor", sum := "f0a450314b7bb80e8e802f7a82ea0db8d5cf916d798c64eb9c9f3612a7fbf474", func := "smalto/smaltolaw03.ForkCost", spec := "forkCost", unfollowed := true, recurses := true, named := ["math/bits.deBruijn32tab", "math/bits.deBruijn64tab"], apart := false, laid := [("math/bits.deBruijn32tab", laid_math_bits_deBruijn32tab), ("math/bits.deBruijn64tab", laid_math_bits_deBruijn64tab)], narrowed := true }
def ForkCostUptoSaid : Prop := forkCostUptoRow.holds Tryd.pinned (OpenSpec.upto forkCostSpec)

/-- 'smaltolaw03.ForkPutRight', WHERE WHAT IT READS IS OF BULK AT MOST 1048576: true; the input reads as it did. -/
def forkPutRightUptoRow : OpenClaim := { program := "ytbijamlgcebgeaadoor", sum := "f0a450314b7bb80e8e802f7a82ea0db8d5cf916d798c64eb9c9f3612a7fbf474", func := "smalto/smaltolaw03.ForkPutRight", spec := "forkPutRight", unfollowed := true, recurses := true, named := ["math/bits.deBruijn32tab", "math/bits.deBruijn64tab"], apart := false, laid := [("math/bits.deBruijn32tab", laid_math_bits_deBruijn32tab), ("math/bits.deBruijn64tab", laid_math_bits_deBruijn64tab)], narrowed := true }
def ForkPutRightUptoSaid : Prop := forkPutRightUptoRow.holds Tryd.pinned (OpenSpec.upto forkPutRightSpec)

end Rows
end Go.Proofs.YtbijamlgcebgeaaDoor
