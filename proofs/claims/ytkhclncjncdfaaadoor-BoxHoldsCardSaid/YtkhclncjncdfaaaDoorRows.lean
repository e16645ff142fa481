/-
  NARROWER THAN 'FOR EVERY INPUT', by the rows' own cells (each row's printed sentence says how): BoxFroms: laid · BoxCuts: laid · BoxHas: laid · BoxMeets: laid · BoxPoints: laid · BoxBoths: laid · WholeGcds: laid · BoxWithins: laid · BoxHolds: laid · BoxSomes: laid · LimitChecks: laid.
  DERIVED. THE GIVEN ROWS OF THIS SEAT. 11 by the template 'for every input the law returns true; each argument reads behind the call as it read before'; 0 by the template 'total and deterministic' (their statements: YtkhclncjncdfaaaDoorTotals.lean).
  GIVEN WITH THE SEED: the statements are not yours to turn. If you find one false, say at which input.
  Laid BY PROGRAM, IN A SANDBOX (cutbox-rows.mjs): the forced cells as the released guide's own fill.sh prints them over the translation b210f2cc085749ce… (all of the seat's roots in one cut). By AI agents, Wed Nov 11 2026. No macro, syntax, notation, axiom, sorry.
-/
import Derived.Test.YtkhclncjncdfaaaDoorChecked
import GoSem.Claim
import GoSem.ClaimJoined
import GoSem.ClaimMapViews
import Derived.JoinedTies
import Derived.KernelRfl
namespace Go.Proofs.YtkhclncjncdfaaaDoor
/- THE CELL 'sum', in the pinned program and in every row, IS THE sha256 OF THE DUMP (.gsa) THAT YtkhclncjncdfaaaDoorProg.lean LOADS. Nothing in Lean hashes anything: it is a label: what it is worth is what the hold of that sum in a sandbox is worth. -/
noncomputable def Tryd.pinned : Pinned := { name := "ytkhclncjncdfaaadoor", sum := "b210f2cc085749ce83d9004363ce17be7d96e72b9350690cde3bb0bf4e5cf2c9", checked := Tryd.checked }
namespace Rows
def none {H : Type} : Left H := { results := [], args := [] }

/- WHAT THE LISTED PACKAGE-LEVEL VARIABLES READ AS WHEN THE CALL BEGINS. Each datum BY PROGRAM (the guide's laid-datum.mjs) off the statement by which the dump's own 'gosem.cut.vars' lays the variable. In a bare row this is a premise. The card (YtkhclncjncdfaaaDoorCards.lean) ties it to the program's text. -/
def laid_math_bits_deBruijn64tab {H : Type} : DataW H := .agg [.lit (.int .u8 0), .lit (.int .u8 1), .lit (.int .u8 56), .lit (.int .u8 2), .lit (.int .u8 57), .lit (.int .u8 49), .lit (.int .u8 28), .lit (.int .u8 3), .lit (.int .u8 61), .lit (.int .u8 58), .lit (.int .u8 42), .lit (.int .u8 50), .lit (.int .u8 38), .lit (.int .u8 29), .lit (.int .u8 17), .lit (.int .u8 4), .lit (.int .u8 62), .lit (.int .u8 47), .lit (.int .u8 59), .lit (.int .u8 36), .lit (.int .u8 45), .lit (.int .u8 43), .lit (.int .u8 51), .lit (.int .u8 22), .lit (.int .u8 53), .lit (.int .u8 39), .lit (.int .u8 33), .lit (.int .u8 30), .lit (.int .u8 24), .lit (.int .u8 18), .lit (.int .u8 12), .lit (.int .u8 5), .lit (.int .u8 63), .lit (.int .u8 55), .lit (.int .u8 48), .lit (.int .u8 27), .lit (.int .u8 60), .lit (.int .u8 41), .lit (.int .u8 37), .lit (.int .u8 16), .lit (.int .u8 46), .lit (.int .u8 35), .lit (.int .u8 44), .lit (.int .u8 21), .lit (.int .u8 52), .lit (.int .u8 32), .lit (.int .u8 23), .lit (.int .u8 11), .lit (.int .u8 54), .lit (.int .u8 26), .lit (.int .u8 40), .lit (.int .u8 15), .lit (.int .u8 34), .lit (.int .u8 20), .lit (.int .u8 31), .lit (.int .u8 10), .lit (.int .u8 25), .lit (.int .u8 14), .lit (.int .u8 19), .lit (.int .u8 9), .lit (.int .u8 13), .lit (.int .u8 8), .lit (.int .u8 7), .lit (.int .u8 6)]

/-- 'dendronlaw23.BoxFroms': WHATEVER THE INPUT: true; the input reads as it did. -/
def boxFromsSpec : ChangeSpec := { name := "boxFroms", fn := fun _ => fun
  | [d1, d2, d3] => { results := [.lit (.bool true)], args := [d1, d2, d3] }
  | _ => none }
def boxFromsRow : OpenClaim := { program := "ytkhclncjncdfaaadoor", sum := "b210f2cc085749ce83d9004363ce17be7d96e72b9350690cde3bb0bf4e5cf2c9", func := "dendron/dendronlaw23.BoxFroms", spec := "boxFroms", named := ["math/bits.deBruijn64tab"], apart := false, laid := [("math/bits.deBruijn64tab", laid_math_bits_deBruijn64tab)] }
def BoxFromsSaid : Prop := boxFromsRow.holds Tryd.pinned (OpenSpec.ofChange boxFromsSpec)

/-- ITS FALSE NEIGHBOUR: 'it returns false'. Refute it at one input. -/
def boxFromsWrong : ChangeSpec := { name := "boxFroms", fn := fun _ => fun
  | [d1, d2, d3] => { results := [.lit (.bool false)], args := [d1, d2, d3] }
  | _ => none }
def BoxFromsWrongFalsely : Prop := boxFromsRow.holds Tryd.pinned (OpenSpec.ofChange boxFromsWrong)

/-- 'dendronlaw23.BoxCuts': WHATEVER THE INPUT: true; the input reads as it did. -/
def boxCutsSpec : ChangeSpec := { name := "boxCuts", fn := fun _ => fun
  | [d1, d2, d3, d4] => { results := [.lit (.bool true)], args := [d1, d2, d3, d4] }
  | _ => none }
def boxCutsRow : OpenClaim := { program := "ytkhclncjncdfaaadoor", sum := "b210f2cc085749ce83d9004363ce17be7d96e72b9350690cde3bb0bf4e5cf2c9", func := "dendron/dendronlaw23.BoxCuts", spec := "boxCuts", named := ["math/bits.deBruijn64tab"], apart := false, laid := [("math/bits.deBruijn64tab", laid_math_bits_deBruijn64tab)] }
def BoxCutsSaid : Prop := boxCutsRow.holds Tryd.pinned (OpenSpec.ofChange boxCutsSpec)

/-- ITS FALSE NEIGHBOUR: 'it returns false'. Refute it at one input. -/
def boxCutsWrong : ChangeSpec := { name := "boxCuts", fn := fun _ => fun
  | [d1, d2, d3, d4] => { results := [.lit (.bool false)], args := [d1, d2, d3, d4] }
  | _ => none }
def BoxCutsWrongFalsely : Prop := boxCutsRow.holds Tryd.pinned (OpenSpec.ofChange boxCutsWrong)

/-- 'dendronlaw23.BoxHas': WHATEVER THE INPUT: true; the input reads as it did. -/
def boxHasSpec : ChangeSpec := { name := "boxHas", fn := fun _ => fun
  | [d1, d2] => { results := [.lit (.bool true)], args := [d1, d2] }
  | _ => none }
def boxHasRow : OpenClaim := { program := "ytkhclncjncdfaaadoor", sum := "b210f2cc085749ce83d9004363ce17be7d96e72b9350690cde3bb0bf4e5cf2c9", func := "dendron/dendronlaw23.BoxHas", spec := "boxHas", named := ["math/bits.deBruijn64tab"], apart := false, laid := [("math/bits.deBruijn64tab", laid_math_bits_deBruijn64tab)] }
def BoxHasSaid : Prop := boxHasRow.holds Tryd.pinned (OpenSpec.ofChange boxHasSpec)

/-- ITS FALSE NEIGHBOUR: 'it returns false'. Refute it at one input. -/
def boxHasWrong : ChangeSpec := { name := "boxHas", fn := fun _ => fun
  | [d1, d2] => { results := [.lit (.bool false)], args := [d1, d2] }
  | _ => none }
def BoxHasWrongFalsely : Prop := boxHasRow.holds Tryd.pinned (OpenSpec.ofChange boxHasWrong)

/-- 'dendronlaw23.BoxMeets': WHATEVER THE INPUT: true; the input reads as it did. -/
def boxMeetsSpec : ChangeSpec := { name := "boxMeets", fn := fun _ => fun
  | [d1, d2, d3] => { results := [.lit (.bool true)], args := [d1, d2, d3] }
  | _ => none }
def boxMeetsRow : OpenClaim := { program := "ytkhclncjncdfaaadoor", sum := "b210f2cc085749ce83d9004363ce17be7d96e72b9350690cde3bb0bf4e5cf2c9", func := "dendron/dendronlaw23.BoxMeets", spec := "boxMeets", named := ["math/bits.deBruijn64tab"], apart := false, laid := [("math/bits.deBruijn64tab", laid_math_bits_deBruijn64tab)] }
def BoxMeetsSaid : Prop := boxMeetsRow.holds Tryd.pinned (OpenSpec.ofChange boxMeetsSpec)

/-- ITS FALSE NEIGHBOUR: 'it returns false'. Refute it at one input. -/
def boxMeetsWrong : ChangeSpec := { name := "boxMeets", fn := fun _ => fun
  | [d1, d2, d3] => { results := [.lit (.bool false)], args := [d1, d2, d3] }
  | _ => none }
def BoxMeetsWrongFalsely : Prop := boxMeetsRow.holds Tryd.pinned (OpenSpec.ofChange boxMeetsWrong)

/-- 'dendronlaw23.BoxPoints': WHATEVER THE INPUT: true; the input reads as it did. -/
def boxPointsSpec : ChangeSpec := { name := "boxPoints", fn := fun _ => fun
  | [d1, d2, d3, d4] => { results := [.lit (.bool true)], args := [d1, d2, d3, d4] }
  | _ => none }
def boxPointsRow : OpenClaim := { program := "ytkhclncjncdfaaadoor", sum := "b210f2cc085749ce83d9004363ce17be7d96e72b9350690cde3bb0bf4e5cf2c9", func := "dendron/dendronlaw23.BoxPoints", spec := "boxPoints", named := ["math/bits.deBruijn64tab"], apart := false, laid := [("math/bits.deBruijn64tab", laid_math_bits_deBruijn64tab)] }
def BoxPointsSaid : Prop := boxPointsRow.holds Tryd.pinned (OpenSpec.ofChange boxPointsSpec)

/-- ITS FALSE NEIGHBOUR: 'it returns false'. Refute it at one input. -/
def boxPointsWrong : ChangeSpec := { name := "boxPoints", fn := fun _ => fun
  | [d1, d2, d3, d4] => { results := [.lit (.bool false)], args := [d1, d2, d3, d4] }
  | _ => none }
def BoxPointsWrongFalsely : Prop := boxPointsRow.holds Tryd.pinned (OpenSpec.ofChange boxPointsWrong)

/-- 'dendronlaw23.BoxBoths': WHATEVER THE INPUT: true; the input reads as it did. -/
def boxBothsSpec : ChangeSpec := { name := "boxBoths", fn := fun _ => fun
  | [d1, d2, d3, d4, d5] => { results := [.lit (.bool true)], args := [d1, d2, d3, d4, d5] }
  | _ => none }
def boxBothsRow : OpenClaim := { program := "ytkhclncjncdfaaadoor", sum := "b210f2cc085749ce83d9004363ce17be7d96e72b9350690cde3bb0bf4e5cf2c9", func := "dendron/dendronlaw23.BoxBoths", spec := "boxBoths", named := ["math/bits.deBruijn64tab"], apart := false, laid := [("math/bits.deBruijn64tab", laid_math_bits_deBruijn64tab)] }
def BoxBothsSaid : Prop := boxBothsRow.holds Tryd.pinned (OpenSpec.ofChange boxBothsSpec)

/-- ITS FALSE NEIGHBOUR: 'it returns false'. Refute it at one input. -/
def boxBothsWrong : ChangeSpec := { name := "boxBoths", fn := fun _ => fun
  | [d1, d2, d3, d4, d5] => { results := [.lit (.bool false)], args := [d1, d2, d3, d4, d5] }
  | _ => none }
def BoxBothsWrongFalsely : Prop := boxBothsRow.holds Tryd.pinned (OpenSpec.ofChange boxBothsWrong)

/-- 'dendronlaw02.WholeGcds': WHATEVER THE INPUT: true; the input reads as it did. -/
def wholeGcdsSpec : ChangeSpec := { name := "wholeGcds", fn := fun _ => fun
  | [d1, d2] => { results := [.lit (.bool true)], args := [d1, d2] }
  | _ => none }
def wholeGcdsRow : OpenClaim := { program := "ytkhclncjncdfaaadoor", sum := "b210f2cc085749ce83d9004363ce17be7d96e72b9350690cde3bb0bf4e5cf2c9", func := "dendron/dendronlaw02.WholeGcds", spec := "wholeGcds", named := ["math/bits.deBruijn64tab"], apart := false, laid := [("math/bits.deBruijn64tab", laid_math_bits_deBruijn64tab)] }
def WholeGcdsSaid : Prop := wholeGcdsRow.holds Tryd.pinned (OpenSpec.ofChange wholeGcdsSpec)

/-- ITS FALSE NEIGHBOUR: 'it returns false'. Refute it at one input. -/
def wholeGcdsWrong : ChangeSpec := { name := "wholeGcds", fn := fun _ => fun
  | [d1, d2] => { results := [.lit (.bool false)], args := [d1, d2] }
  | _ => none }
def WholeGcdsWrongFalsely : Prop := wholeGcdsRow.holds Tryd.pinned (OpenSpec.ofChange wholeGcdsWrong)

/-- 'dendronlaw23.BoxWithins': WHATEVER THE INPUT: true; the input reads as it did. -/
def boxWithinsSpec : ChangeSpec := { name := "boxWithins", fn := fun _ => fun
  | [d1, d2] => { results := [.lit (.bool true)], args := [d1, d2] }
  | _ => none }
def boxWithinsRow : OpenClaim := { program := "ytkhclncjncdfaaadoor", sum := "b210f2cc085749ce83d9004363ce17be7d96e72b9350690cde3bb0bf4e5cf2c9", func := "dendron/dendronlaw23.BoxWithins", spec := "boxWithins", named := ["math/bits.deBruijn64tab"], apart := false, laid := [("math/bits.deBruijn64tab", laid_math_bits_deBruijn64tab)] }
def BoxWithinsSaid : Prop := boxWithinsRow.holds Tryd.pinned (OpenSpec.ofChange boxWithinsSpec)

/-- ITS FALSE NEIGHBOUR: 'it returns false'. Refute it at one input. -/
def boxWithinsWrong : ChangeSpec := { name := "boxWithins", fn := fun _ => fun
  | [d1, d2] => { results := [.lit (.bool false)], args := [d1, d2] }
  | _ => none }
def BoxWithinsWrongFalsely : Prop := boxWithinsRow.holds Tryd.pinned (OpenSpec.ofChange boxWithinsWrong)

/-- 'dendronlaw23.BoxHolds': WHATEVER THE INPUT: true; the input reads as it did. -/
def boxHoldsSpec : ChangeSpec := { name := "boxHolds", fn := fun _ => fun
  | [d1, d2] => { results := [.lit (.bool true)], args := [d1, d2] }
  | _ => none }
def boxHoldsRow : OpenClaim := { program := "ytkhclncjncdfaaadoor", sum := "b210f2cc085749ce83d9004363ce17be7d96e72b9350690cde3bb0bf4e5cf2c9", func := "dendron/dendronlaw23.BoxHolds", spec := "boxHolds", named := ["math/bits.deBruijn64tab"], apart := false, laid := [("math/bits.deBruijn64tab", laid_math_bits_deBruijn64tab)] }
def BoxHoldsSaid : Prop := boxHoldsRow.holds Tryd.pinned (OpenSpec.ofChange boxHoldsSpec)

/-- ITS FALSE NEIGHBOUR: 'it returns false'. Refute it at one input. -/
def boxHoldsWrong : ChangeSpec := { name := "boxHolds", fn := fun _ => fun
  | [d1, d2] => { results := [.lit (.bool false)], args := [d1, d2] }
  | _ => none }
def BoxHoldsWrongFalsely : Prop := boxHoldsRow.holds Tryd.pinned (OpenSpec.ofChange boxHoldsWrong)

/-- 'dendronlaw23.BoxSomes': WHATEVER THE INPUT: true; the input reads as it did. -/
def boxSomesSpec : ChangeSpec := { name := "boxSomes", fn := fun _ => fun
  | [d] => { results := [.lit (.bool true)], args := [d] }
  | _ => none }
def boxSomesRow : OpenClaim := { program := "ytkhclncjncdfaaadoor", sum := "b210f2cc085749ce83d9004363ce17be7d96e72b9350690cde3bb0bf4e5cf2c9", func := "dendron/dendronlaw23.BoxSomes", spec := "boxSomes", named := ["math/bits.deBruijn64tab"], apart := false, laid := [("math/bits.deBruijn64tab", laid_math_bits_deBruijn64tab)] }
def BoxSomesSaid : Prop := boxSomesRow.holds Tryd.pinned (OpenSpec.ofChange boxSomesSpec)

/-- ITS FALSE NEIGHBOUR: 'it returns false'. Refute it at one input. -/
def boxSomesWrong : ChangeSpec := { name := "boxSomes", fn := fun _ => fun
  | [d] => { results := [.lit (.bool false)], args := [d] }
  | _ => none }
def BoxSomesWrongFalsely : Prop := boxSomesRow.holds Tryd.pinned (OpenSpec.ofChange boxSomesWrong)

/-- 'dendronlaw30.LimitChecks': WHATEVER THE INPUT: true; the input reads as it did. -/
def limitChecksSpec : ChangeSpec := { name := "limitChecks", fn := fun _ => fun
  | [d1, d2] => { results := [.lit (.bool true)], args := [d1, d2] }
  | _ => none }
def limitChecksRow : OpenClaim := { program := "ytkhclncjncdfaaadoor", sum := "b210f2cc085749ce83d9004363ce17be7d96e72b9350690cde3bb0bf4e5cf2c9", func := "dendron/dendronlaw30.LimitChecks", spec := "limitChecks", inPlace := ["sync/atomic.StoreInt64", "sync/atomic.AddInt64", "sync/atomic.LoadInt64"], named := ["math/bits.deBruijn64tab"], apart := false, laid := [("math/bits.deBruijn64tab", laid_math_bits_deBruijn64tab)] }
def LimitChecksSaid : Prop := limitChecksRow.holds Tryd.pinned (OpenSpec.ofChange limitChecksSpec)

/-- ITS FALSE NEIGHBOUR: 'it returns false'. Refute it at one input. -/
def limitChecksWrong : ChangeSpec := { name := "limitChecks", fn := fun _ => fun
  | [d1, d2] => { results := [.lit (.bool false)], args := [d1, d2] }
  | _ => none }
def LimitChecksWrongFalsely : Prop := limitChecksRow.holds Tryd.pinned (OpenSpec.ofChange limitChecksWrong)

/- THE SECOND FORM. 'bulk': how many values and letters a reading holds, each counted each time it is reached (what is shared counts as often as it is met; a slice's spare places count too). A statement '..UptoSaid' is the law's where the arguments, and the package variables that the reading takes, are together of bulk at most 1048576: NARROWER than '..Said'. Prove '..Said' where nothing that the law and all that it calls make is longer than what came in: it says more and counts as full. Else prove '..UptoSaid'. A law counts once. -/
mutual
def uptoBulk {H : Type} : DataW H → Nat
  | .lit (.string bytes) => bytes.length + 1
  | .lit _ => 1
  | .nil => 1
  | .ptr d => uptoBulk d + 1
  | .slice elems spare => uptoBulkAll elems + uptoBulkAll spare + 1
  | .agg parts => uptoBulkAll parts + 1
  | .iface _ d => uptoBulk d + 1
  | .map entries => uptoBulkEntries entries + 1
  | .held _ => 1
def uptoBulkAll {H : Type} : List (DataW H) → Nat
  | [] => 0
  | d :: r => uptoBulk d + uptoBulkAll r
def uptoBulkEntries {H : Type} : List (Lit × DataW H) → Nat
  | [] => 0
  | x :: r => uptoBulkEntry x + uptoBulkEntries r
def uptoBulkEntry {H : Type} : Lit × DataW H → Nat
  | (.string bytes, d) => bytes.length + uptoBulk d + 1
  | (_, d) => uptoBulk d + 1
 end
def uptoSmall : (H : Type) → List (DataW H) → Bool := fun _ ds => decide (uptoBulkAll ds ≤ 1048576)
def OpenSpec.upto (s : _root_.Go.ChangeSpec) : _root_.Go.OpenSpec := { _root_.Go.OpenSpec.ofChange s with cond := some uptoSmall }

/-- 'dendronlaw23.BoxFroms', WHERE WHAT IT READS IS OF BULK AT MOST 1048576: true; the input reads as it did. -/
def boxFromsUptoRow : OpenClaim := { program := "ytkhclncjncdfaaadoor", sum := "b210f2cc085749ce83d9004363ce17be7d96e72b9350690cde3bb0bf4e5cf2c9", func := "dendron/dendronlaw23.BoxFroms", spec := "boxFroms", named := ["math/bits.deBruijn64tab"], apart := false, laid := [("math/bits.deBruijn64tab", laid_math_bits_deBruijn64tab)], narrowed := true }
def BoxFromsUptoSaid : Prop := boxFromsUptoRow.holds Tryd.pinned (OpenSpec.upto boxFromsSpec)

/-- 'dendronlaw23.BoxCuts', WHERE WHAT IT READS IS OF BULK AT MOST 1048576: true; the input reads as it did. -/
def boxCutsUptoRow : OpenClaim := { program := "ytkhclncjncdfaaadoor", sum := "b210f2cc085749ce83d9004363ce17be7d96e72b9350690cde3bb0bf4e5cf2c9", func := "dendron/dendronlaw23.BoxCuts", spec := "boxCuts", named := ["math/bits.deBruijn64tab"], apart := false, laid := [("math/bits.deBruijn64tab", laid_math_bits_deBruijn64tab)], narrowed := true }
def BoxCutsUptoSaid : Prop := boxCutsUptoRow.holds Tryd.pinned (OpenSpec.upto boxCutsSpec)

/-- 'dendronlaw23.BoxHas', WHERE WHAT IT READS IS OF BULK AT MOST 1048576: true; the input reads as it did. -/
def boxHasUptoRow : OpenClaim := { program := "ytkhclncjncdfaaadoor", sum := "b210f2cc085749ce83d9004363ce17be7d96e72b9350690cde3bb0bf4e5cf2c9", func := "dendron/dendronlaw23.BoxHas", spec := "boxHas", named := ["math/bits.deBruijn64tab"], apart := false, laid := [("math/bits.deBruijn64tab", laid_math_bits_deBruijn64tab)], narrowed := true }
def BoxHasUptoSaid : Prop := boxHasUptoRow.holds Tryd.pinned (OpenSpec.upto boxHasSpec)

/-- 'dendronlaw23.BoxMeets', WHERE WHAT IT READS IS OF BULK AT MOST 1048576: true; the input reads as it did. -/
def boxMeetsUptoRow : OpenClaim := { program := "ytkhclncjncdfaaadoor", sum := "b210f2cc085749ce83d9004363ce17be7d96e72b9350690cde3bb0bf4e5cf2c9", func := "dendron/dendronlaw23.BoxMeets", spec := "boxMeets", named := ["math/bits.deBruijn64tab"], apart := false, laid := [("math/bits.deBruijn64tab", laid_math_bits_deBruijn64tab)], narrowed := true }
def BoxMeetsUptoSaid : Prop := boxMeetsUptoRow.holds Tryd.pinned (OpenSpec.upto boxMeetsSpec)

/-- 'dendronlaw23.BoxPoints', WHERE WHAT IT READS IS OF BULK AT MOST 1048576: true; the input reads as it did. -/
def boxPointsUptoRow : OpenClaim := { program := "ytkhclncjncdfaaadoor", sum := "b210f2cc085749ce83d9004363ce17be7d96e72b9350690cde3bb0bf4e5cf2c9", func := "dendron/dendronlaw23.BoxPoints", spec := "boxPoints", named := ["math/bits.deBruijn64tab"], apart := false, laid := [("math/bits.deBruijn64tab", laid_math_bits_deBruijn64tab)], narrowed := true }
def BoxPointsUptoSaid : Prop := boxPointsUptoRow.holds Tryd.pinned (OpenSpec.upto boxPointsSpec)

/-- 'dendronlaw23.BoxBoths', WHERE WHAT IT READS IS OF BULK AT MOST 1048576: true; the input reads as it did. -/
def boxBothsUptoRow : OpenClaim := { program := "ytkhclncjncdfaaadoor", sum := "b210f2cc085749ce83d9004363ce17be7d96e72b9350690cde3bb0bf4e5cf2c9", func := "dendron/dendronlaw23.BoxBoths", spec := "boxBoths", named := ["math/bits.deBruijn64tab"], apart := false, laid := [("math/bits.deBruijn64tab", laid_math_bits_deBruijn64tab)], narrowed := true }
def BoxBothsUptoSaid : Prop := boxBothsUptoRow.holds Tryd.pinned (OpenSpec.upto boxBothsSpec)

/-- 'dendronlaw02.WholeGcds', WHERE WHAT IT READS IS OF BULK AT MOST 1048576: true; the input reads as it did. -/
def wholeGcdsUptoRow : OpenClaim := { program := "ytkhclncjncdfaaadoor", sum := "b210f2cc085749ce83d9004363ce17be7d96e72b9350690cde3bb0bf4e5cf2c9", func := "dendron/dendronlaw02.WholeGcds", spec := "wholeGcds", named := ["math/bits.deBruijn64tab"], apart := false, laid := [("math/bits.deBruijn64tab", laid_math_bits_deBruijn64tab)], narrowed := true }
def WholeGcdsUptoSaid : Prop := wholeGcdsUptoRow.holds Tryd.pinned (OpenSpec.upto wholeGcdsSpec)

/-- 'dendronlaw23.BoxWithins', WHERE WHAT IT READS IS OF BULK AT MOST 1048576: true; the input reads as it did. -/
def boxWithinsUptoRow : OpenClaim := { program := "ytkhclncjncdfaaadoor", sum := "b210f2cc085749ce83d9004363ce17be7d96e72b9350690cde3bb0bf4e5cf2c9", func := "dendron/dendronlaw23.BoxWithins", spec := "boxWithins", named := ["math/bits.deBruijn64tab"], apart := false, laid := [("math/bits.deBruijn64tab", laid_math_bits_deBruijn64tab)], narrowed := true }
def BoxWithinsUptoSaid : Prop := boxWithinsUptoRow.holds Tryd.pinned (OpenSpec.upto boxWithinsSpec)

/-- 'dendronlaw23.BoxHolds', WHERE WHAT IT READS IS OF BULK AT MOST 1048576: true; the input reads as it did. -/
def boxHoldsUptoRow : OpenClaim := { program := "ytkhclncjncdfaaadoor", sum := "b210f2cc085749ce83d9004363ce17be7d96e72b9350690cde3bb0bf4e5cf2c9", func := "dendron/dendronlaw23.BoxHolds", spec := "boxHolds", named := ["math/bits.deBruijn64tab"], apart := false, laid := [("math/bits.deBruijn64tab", laid_math_bits_deBruijn64tab)], narrowed := true }
def BoxHoldsUptoSaid : Prop := boxHoldsUptoRow.holds Tryd.pinned (OpenSpec.upto boxHoldsSpec)

/-- 'dendronlaw23.BoxSomes', WHERE WHAT IT READS IS OF BULK AT MOST 1048576: true; the input reads as it did. -/
def boxSomesUptoRow : OpenClaim := { program := "ytkhclncjncdfaaadoor", sum := "b210f2cc085749ce83d9004363ce17be7d96e72b9350690cde3bb0bf4e5cf2c9", func := "dendron/dendronlaw23.BoxSomes", spec := "boxSomes", named := ["math/bits.deBruijn64tab"], apart := false, laid := [("math/bits.deBruijn64tab", laid_math_bits_deBruijn64tab)], narrowed := true }
def BoxSomesUptoSaid : Prop := boxSomesUptoRow.holds Tryd.pinned (OpenSpec.upto boxSomesSpec)

/-- 'dendronlaw30.LimitChecks', WHERE WHAT IT READS IS OF BULK AT MOST 1048576: true; the input reads as it did. -/
def limitChecksUptoRow : OpenClaim := { program := "ytkhclncjncdfaaadoor", sum := "b210f2cc085749ce83d9004363ce17be7d96e72b9350690cde3bb0bf4e5cf2c9", func := "dendron/dendronlaw30.LimitChecks", spec := "limitChecks", inPlace := ["sync/atomic.StoreInt64", "sync/atomic.AddInt64", "sync/atomic.LoadInt64"], named := ["math/bits.deBruijn64tab"], apart := false, laid := [("math/bits.deBruijn64tab", laid_math_bits_deBruijn64tab)], narrowed := true }
def LimitChecksUptoSaid : Prop := limitChecksUptoRow.holds Tryd.pinned (OpenSpec.upto limitChecksSpec)

end Rows
end Go.Proofs.YtkhclncjncdfaaaDoor
