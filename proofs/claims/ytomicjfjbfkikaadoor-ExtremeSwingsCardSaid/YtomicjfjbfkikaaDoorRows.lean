/-
  NARROWER THAN 'FOR EVERY INPUT', by the rows' own cells (each row's printed sentence says how): ExtremeRows: laid · ExtremeFixed: laid · ExtremeBounds: laid · ExtremeCells: laid · ExtremeSwings: laid · ExtremeBetweens: laid.
  DERIVED. THE GIVEN ROWS OF THIS SEAT. 6 by the template 'for every input the law returns true; each argument reads behind the call as it read before'; 0 by the template 'total and deterministic' (their statements: YtomicjfjbfkikaaDoorTotals.lean).
  GIVEN WITH THE SEED: the statements are not yours to turn. If you find one false, say at which input.
  Laid BY PROGRAM, IN A SANDBOX (cutbox-rows.mjs): the forced cells as the released guide's own fill.sh prints them over the translation d01b1eec1ba44e62… (all of the seat's roots in one cut). By AI agents, Wed Nov 11 2026. No macro, syntax, notation, axiom, sorry.
-/
import Derived.Test.YtomicjfjbfkikaaDoorChecked
import GoSem.Claim
import GoSem.ClaimJoined
import GoSem.ClaimMapViews
import Derived.JoinedTies
import Derived.KernelRfl
namespace Go.Proofs.YtomicjfjbfkikaaDoor
/- THE CELL 'sum', in the pinned program and in every row, IS THE sha256 OF THE DUMP (.gsa) THAT YtomicjfjbfkikaaDoorProg.lean LOADS. Nothing in Lean hashes anything: it is a label: what it is worth is what the hold of that sum in a sandbox is worth. -/
noncomputable def Tryd.pinned : Pinned := { name := "ytomicjfjbfkikaadoor", sum := "d01b1eec1ba44e62c075c2b45476fcd2380b6899e3d44e91b7c68b73bad7a587", checked := Tryd.checked }
namespace Rows
def none {H : Type} : Left H := { results := [], args := [] }

/- WHAT THE LISTED PACKAGE-LEVEL VARIABLES READ AS WHEN THE CALL BEGINS. Each datum BY PROGRAM (the guide's laid-datum.mjs) off the statement by which the dump's own 'gosem.cut.vars' lays the variable. In a bare row this is a premise. The card (YtomicjfjbfkikaaDoorCards.lean) ties it to the program's text. -/
def laid_math_bits_deBruijn64tab {H : Type} : DataW H := .agg [.lit (.int .u8 0), .lit (.int .u8 1), .lit (.int .u8 56), .lit (.int .u8 2), .lit (.int .u8 57), .lit (.int .u8 49), .lit (.int .u8 28), .lit (.int .u8 3), .lit (.int .u8 61), .lit (.int .u8 58), .lit (.int .u8 42), .lit (.int .u8 50), .lit (.int .u8 38), .lit (.int .u8 29), .lit (.int .u8 17), .lit (.int .u8 4), .lit (.int .u8 62), .lit (.int .u8 47), .lit (.int .u8 59), .lit (.int .u8 36), .lit (.int .u8 45), .lit (.int .u8 43), .lit (.int .u8 51), .lit (.int .u8 22), .lit (.int .u8 53), .lit (.int .u8 39), .lit (.int .u8 33), .lit (.int .u8 30), .lit (.int .u8 24), .lit (.int .u8 18), .lit (.int .u8 12), .lit (.int .u8 5), .lit (.int .u8 63), .lit (.int .u8 55), .lit (.int .u8 48), .lit (.int .u8 27), .lit (.int .u8 60), .lit (.int .u8 41), .lit (.int .u8 37), .lit (.int .u8 16), .lit (.int .u8 46), .lit (.int .u8 35), .lit (.int .u8 44), .lit (.int .u8 21), .lit (.int .u8 52), .lit (.int .u8 32), .lit (.int .u8 23), .lit (.int .u8 11), .lit (.int .u8 54), .lit (.int .u8 26), .lit (.int .u8 40), .lit (.int .u8 15), .lit (.int .u8 34), .lit (.int .u8 20), .lit (.int .u8 31), .lit (.int .u8 10), .lit (.int .u8 25), .lit (.int .u8 14), .lit (.int .u8 19), .lit (.int .u8 9), .lit (.int .u8 13), .lit (.int .u8 8), .lit (.int .u8 7), .lit (.int .u8 6)]

/-- 'dendronlaw24.ExtremeRows': WHATEVER THE INPUT: true; the input reads as it did. -/
def extremeRowsSpec : ChangeSpec := { name := "extremeRows", fn := fun _ => fun
  | [d1, d2] => { results := [.lit (.bool true)], args := [d1, d2] }
  | _ => none }
def extremeRowsRow : OpenClaim := { program := "ytomicjfjbfkikaadoor", sum := "d01b1eec1ba44e62c075c2b45476fcd2380b6899e3d44e91b7c68b73bad7a587", func := "dendron/dendronlaw24.ExtremeRows", spec := "extremeRows", recurses := true, named := ["math/bits.deBruijn64tab"], apart := false, laid := [("math/bits.deBruijn64tab", laid_math_bits_deBruijn64tab)] }
def ExtremeRowsSaid : Prop := extremeRowsRow.holds Tryd.pinned (OpenSpec.ofChange extremeRowsSpec)

/-- ITS FALSE NEIGHBOUR: 'it returns false'. Refute it at one input. -/
def extremeRowsWrong : ChangeSpec := { name := "extremeRows", fn := fun _ => fun
  | [d1, d2] => { results := [.lit (.bool false)], args := [d1, d2] }
  | _ => none }
def ExtremeRowsWrongFalsely : Prop := extremeRowsRow.holds Tryd.pinned (OpenSpec.ofChange extremeRowsWrong)

/-- 'dendronlaw24.ExtremeFixed': WHATEVER THE INPUT: true; the input reads as it did. -/
def extremeFixedSpec : ChangeSpec := { name := "extremeFixed", fn := fun _ => fun
  | [d1, d2, d3] => { results := [.lit (.bool true)], args := [d1, d2, d3] }
  | _ => none }
def extremeFixedRow : OpenClaim := { program := "ytomicjfjbfkikaadoor", sum := "d01b1eec1ba44e62c075c2b45476fcd2380b6899e3d44e91b7c68b73bad7a587", func := "dendron/dendronlaw24.ExtremeFixed", spec := "extremeFixed", recurses := true, named := ["math/bits.deBruijn64tab"], apart := false, laid := [("math/bits.deBruijn64tab", laid_math_bits_deBruijn64tab)] }
def ExtremeFixedSaid : Prop := extremeFixedRow.holds Tryd.pinned (OpenSpec.ofChange extremeFixedSpec)

/-- ITS FALSE NEIGHBOUR: 'it returns false'. Refute it at one input. -/
def extremeFixedWrong : ChangeSpec := { name := "extremeFixed", fn := fun _ => fun
  | [d1, d2, d3] => { results := [.lit (.bool false)], args := [d1, d2, d3] }
  | _ => none }
def ExtremeFixedWrongFalsely : Prop := extremeFixedRow.holds Tryd.pinned (OpenSpec.ofChange extremeFixedWrong)

/-- 'dendronlaw24.ExtremeBounds': WHATEVER THE INPUT: true; the input reads as it did. -/
def extremeBoundsSpec : ChangeSpec := { name := "extremeBounds", fn := fun _ => fun
  | [d1, d2, d3] => { results := [.lit (.bool true)], args := [d1, d2, d3] }
  | _ => none }
def extremeBoundsRow : OpenClaim := { program := "ytomicjfjbfkikaadoor", sum := "d01b1eec1ba44e62c075c2b45476fcd2380b6899e3d44e91b7c68b73bad7a587", func := "dendron/dendronlaw24.ExtremeBounds", spec := "extremeBounds", recurses := true, named := ["math/bits.deBruijn64tab"], apart := false, laid := [("math/bits.deBruijn64tab", laid_math_bits_deBruijn64tab)] }
def ExtremeBoundsSaid : Prop := extremeBoundsRow.holds Tryd.pinned (OpenSpec.ofChange extremeBoundsSpec)

/-- ITS FALSE NEIGHBOUR: 'it returns false'. Refute it at one input. -/
def extremeBoundsWrong : ChangeSpec := { name := "extremeBounds", fn := fun _ => fun
  | [d1, d2, d3] => { results := [.lit (.bool false)], args := [d1, d2, d3] }
  | _ => none }
def ExtremeBoundsWrongFalsely : Prop := extremeBoundsRow.holds Tryd.pinned (OpenSpec.ofChange extremeBoundsWrong)

/-- 'dendronlaw24.ExtremeCells': WHATEVER THE INPUT: true; the input reads as it did. -/
def extremeCellsSpec : ChangeSpec := { name := "extremeCells", fn := fun _ => fun
  | [d1, d2, d3] => { results := [.lit (.bool true)], args := [d1, d2, d3] }
  | _ => none }
def extremeCellsRow : OpenClaim := { program := "ytomicjfjbfkikaadoor", sum := "d01b1eec1ba44e62c075c2b45476fcd2380b6899e3d44e91b7c68b73bad7a587", func := "dendron/dendronlaw24.ExtremeCells", spec := "extremeCells", recurses := true, named := ["math/bits.deBruijn64tab"], apart := false, laid := [("math/bits.deBruijn64tab", laid_math_bits_deBruijn64tab)] }
def ExtremeCellsSaid : Prop := extremeCellsRow.holds Tryd.pinned (OpenSpec.ofChange extremeCellsSpec)

/-- ITS FALSE NEIGHBOUR: 'it returns false'. Refute it at one input. -/
def extremeCellsWrong : ChangeSpec := { name := "extremeCells", fn := fun _ => fun
  | [d1, d2, d3] => { results := [.lit (.bool false)], args := [d1, d2, d3] }
  | _ => none }
def ExtremeCellsWrongFalsely : Prop := extremeCellsRow.holds Tryd.pinned (OpenSpec.ofChange extremeCellsWrong)

/-- 'dendronlaw24.ExtremeSwings': WHATEVER THE INPUT: true; the input reads as it did. -/
def extremeSwingsSpec : ChangeSpec := { name := "extremeSwings", fn := fun _ => fun
  | [d1, d2, d3, d4] => { results := [.lit (.bool true)], args := [d1, d2, d3, d4] }
  | _ => none }
def extremeSwingsRow : OpenClaim := { program := "ytomicjfjbfkikaadoor", sum := "d01b1eec1ba44e62c075c2b45476fcd2380b6899e3d44e91b7c68b73bad7a587", func := "dendron/dendronlaw24.ExtremeSwings", spec := "extremeSwings", recurses := true, named := ["math/bits.deBruijn64tab"], apart := false, laid := [("math/bits.deBruijn64tab", laid_math_bits_deBruijn64tab)] }
def ExtremeSwingsSaid : Prop := extremeSwingsRow.holds Tryd.pinned (OpenSpec.ofChange extremeSwingsSpec)

/-- ITS FALSE NEIGHBOUR: 'it returns false'. Refute it at one input. -/
def extremeSwingsWrong : ChangeSpec := { name := "extremeSwings", fn := fun _ => fun
  | [d1, d2, d3, d4] => { results := [.lit (.bool false)], args := [d1, d2, d3, d4] }
  | _ => none }
def ExtremeSwingsWrongFalsely : Prop := extremeSwingsRow.holds Tryd.pinned (OpenSpec.ofChange extremeSwingsWrong)

/-- 'dendronlaw24.ExtremeBetweens': WHATEVER THE INPUT: true; the input reads as it did. -/
def extremeBetweensSpec : ChangeSpec := { name := "extremeBetweens", fn := fun _ => fun
  | [d] => { results := [.lit (.bool true)], args := [d] }
  | _ => none }
def extremeBetweensRow : OpenClaim := { program := "ytomicjfjbfkikaadoor", sum := "d01b1eec1ba44e62c075c2b45476fcd2380b6899e3d44e91b7c68b73bad7a587", func := "dendron/dendronlaw24.ExtremeBetweens", spec := "extremeBetweens", recurses := true, named := ["math/bits.deBruijn64tab"], apart := false, laid := [("math/bits.deBruijn64tab", laid_math_bits_deBruijn64tab)] }
def ExtremeBetweensSaid : Prop := extremeBetweensRow.holds Tryd.pinned (OpenSpec.ofChange extremeBetweensSpec)

/-- ITS FALSE NEIGHBOUR: 'it returns false'. Refute it at one input. -/
def extremeBetweensWrong : ChangeSpec := { name := "extremeBetweens", fn := fun _ => fun
  | [d] => { results := [.lit (.bool false)], args := [d] }
  | _ => none }
def ExtremeBetweensWrongFalsely : Prop := extremeBetweensRow.holds Tryd.pinned (OpenSpec.ofChange extremeBetweensWrong)

/- THE SECOND FORM. 'bulk': how many values and letters a reading holds, each counted each time it is reached (what is shared counts as often as it is met; a slice's spare places count too). A statement '..UptoSaid' is the law's where the arguments, and the package variables that the reading takes, are together of bulk at most 1048576: NARROWER than '..Said'. Prove '..Said' where nothing that the law and all that it calls make is longer than what came in: it says more and counts as full. Else prove '..UptoSaid'. A law counts once. -/
mutual
def uptoBulk {H : Type} : DataW H → Nat
  | .lit (.string bytes) => bytes.length + 1
  | .lit _ => 1
  | .nil => 1
  | .ptr d => uptoBulk d + 1
  | .slice elems spare => uptoBulkAll elems + uptoBulkAll spare + 1
  | .agg parts => uptoBulkAll parts + 1
  | .iface _ d => uptoBulk d + 1
  | .map entries => uptoBulkEntries entries + 1
  | .held _ => 1
def uptoBulkAll {H : Type} : List (DataW H) → Nat
  | [] => 0
  | d :: r => uptoBulk d + uptoBulkAll r
def uptoBulkEntries {H : Type} : List (Lit × DataW H) → Nat
  | [] => 0
  | x :: r => uptoBulkEntry x + uptoBulkEntries r
def uptoBulkEntry {H : Type} : Lit × DataW H → Nat
  | (.string bytes, d) => bytes.length + uptoBulk d + 1
  | (_, d) => uptoBulk d + 1
 end
def uptoSmall : (H : Type) → List (DataW H) → Bool := fun _ ds => decide (uptoBulkAll ds ≤ 1048576)
def OpenSpec.upto (s : _root_.Go.ChangeSpec) : _root_.Go.OpenSpec := { _root_.Go.OpenSpec.ofChange s with cond := some uptoSmall }

/-- 'dendronlaw24.ExtremeRows', WHERE WHAT IT READS IS OF BULK AT MOST 1048576: true; the input reads as it did. -/
def extremeRowsUptoRow : OpenClaim := { program := "ytomicjfjbfkikaadoor", sum := "d01b1eec1ba44e62c075c2b45476fcd2380b6899e3d44e91b7c68b73bad7a587", func := "dendron/dendronlaw24.ExtremeRows", spec := "extremeRows", recurses := true, named := ["math/bits.deBruijn64tab"], apart := false, laid := [("math/bits.deBruijn64tab", laid_math_bits_deBruijn64tab)], narrowed := true }
def ExtremeRowsUptoSaid : Prop := extremeRowsUptoRow.holds Tryd.pinned (OpenSpec.upto extremeRowsSpec)

/-- 'dendronlaw24.ExtremeFixed', WHERE WHAT IT READS IS OF BULK AT MOST 1048576: true; the input reads as it did. -/
def extremeFixedUptoRow : OpenClaim := { program := "ytomicjfjbfkikaadoor", sum := "d01b1eec1ba44e62c075c2b45476fcd2380b6899e3d44e91b7c68b73bad7a587", func := "dendron/dendronlaw24.ExtremeFixed", spec := "extremeFixed", recurses := true, named := ["math/bits.deBruijn64tab"], apart := false, laid := [("math/bits.deBruijn64tab", laid_math_bits_deBruijn64tab)], narrowed := true }
def ExtremeFixedUptoSaid : Prop := extremeFixedUptoRow.holds Tryd.pinned (OpenSpec.upto extremeFixedSpec)

/-- 'dendronlaw24.ExtremeBounds', WHERE WHAT IT READS IS OF BULK AT MOST 1048576: true; the input reads as it did. -/
def extremeBoundsUptoRow : OpenClaim := { program := "ytomicjfjbfkikaadoor", sum := "d01b1eec1ba44e62c075c2b45476fcd2380b6899e3d44e91b7c68b73bad7a587", func := "dendron/dendronlaw24.ExtremeBounds", spec := "extremeBounds", recurses := true, named := ["math/bits.deBruijn64tab"], apart := false, laid := [("math/bits.deBruijn64tab", laid_math_bits_deBruijn64tab)], narrowed := true }
def ExtremeBoundsUptoSaid : Prop := extremeBoundsUptoRow.holds Tryd.pinned (OpenSpec.upto extremeBoundsSpec)

/-- 'dendronlaw24.ExtremeCells', WHERE WHAT IT READS IS OF BULK AT MOST 1048576: true; the input reads as it did. -/
def extremeCellsUptoRow : OpenClaim := { program := "ytomicjfjbfkikaadoor", sum := "d01b1eec1ba44e62c075c2b45476fcd2380b6899e3d44e91b7c68b73bad7a587", func := "dendron/dendronlaw24.ExtremeCells", spec := "extremeCells", recurses := true, named := ["math/bits.deBruijn64tab"], apart := false, laid := [("math/bits.deBruijn64tab", laid_math_bits_deBruijn64tab)], narrowed := true }
def ExtremeCellsUptoSaid : Prop := extremeCellsUptoRow.holds Tryd.pinned (OpenSpec.upto extremeCellsSpec)

/-- 'dendronlaw24.ExtremeSwings', WHERE WHAT IT READS IS OF BULK AT MOST 1048576: true; the input reads as it did. -/
def extremeSwingsUptoRow : OpenClaim := { program := "ytomicjfjbfkikaadoor", sum := "d01b1eec1ba44e62c075c2b45476fcd2380b6899e3d44e91b7c68b73bad7a587", func := "dendron/dendronlaw24.ExtremeSwings", spec := "extremeSwings", recurses := true, named := ["math/bits.deBruijn64tab"], apart := false, laid := [("math/bits.deBruijn64tab", laid_math_bits_deBruijn64tab)], narrowed := true }
def ExtremeSwingsUptoSaid : Prop := extremeSwingsUptoRow.holds Tryd.pinned (OpenSpec.upto extremeSwingsSpec)

/-- 'dendronlaw24.ExtremeBetweens', WHERE WHAT IT READS IS OF BULK AT MOST 1048576: true; the input reads as it did. -/
def extremeBetweensUptoRow : OpenClaim := { program := "ytomicjfjbfkikaadoor", sum := "d01b1eec1ba44e62c075c2b45476fcd2380b6899e3d44e91b7c68b73bad7a587", func := "dendron/dendronlaw24.ExtremeBetweens", spec := "extremeBetweens", recurses := true, named := ["math/bits.deBruijn64tab"], apart := false, laid := [("math/bits.deBruijn64tab", laid_math_bits_deBruijn64tab)], narrowed := true }
def ExtremeBetweensUptoSaid : Prop := extremeBetweensUptoRow.holds Tryd.pinned (OpenSpec.upto extremeBetweensSpec)

end Rows
end Go.Proofs.YtomicjfjbfkikaaDoor
