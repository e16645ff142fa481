/-
  NARROWER THAN 'FOR EVERY INPUT', by the rows' own cells (each row's printed sentence says how): PolyLeast: laid · PolyGcds: laid · PolyProducts: laid · PolySlopes: laid · PolySums: laid · PolyDivides: laid · PolyChains: laid · PolyValues: laid · PolyThrough: laid.
  DERIVED. THE GIVEN ROWS OF THIS SEAT. 9 by the template 'for every input the law returns true; each argument reads behind the call as it read before'; 0 by the template 'total and deterministic' (their statements: YtplbolhnmobmmaaDoorTotals.lean).
  GIVEN WITH THE SEED: the statements are not yours to turn. If you find one false, say at which input.
  Laid BY PROGRAM, IN A SANDBOX (cutbox-rows.mjs): the forced cells as the released guide's own fill.sh prints them over the translation 15e9775616345638… (all of the seat's roots in one cut). By AI agents, Wed Nov 11 2026. No macro, syntax, notation, axiom, sorry.
-/
import Derived.Test.YtplbolhnmobmmaaDoorChecked
import GoSem.Claim
import GoSem.ClaimJoined
import GoSem.ClaimMapViews
import Derived.JoinedTies
import Derived.KernelRfl
namespace Go.Proofs.YtplbolhnmobmmaaDoor
/- THE CELL 'sum', in the pinned program and in every row, IS THE sha256 OF THE DUMP (.gsa) THAT YtplbolhnmobmmaaDoorProg.lean LOADS. Nothing in Lean hashes anything: it is a label: what it is worth is what the hold of that sum in a sandbox is worth. -/
noncomputable def Tryd.pinned : Pinned := { name := "ytplbolhnmobmmaadoor", sum := "15e9775616345638c1843f944c5df402a96eb8145bb8f1db813dec7cc9d2c177", checked := Tryd.checked }
namespace Rows
def none {H : Type} : Left H := { results := [], args := [] }

/- WHAT THE LISTED PACKAGE-LEVEL VARIABLES READ AS WHEN THE CALL BEGINS. Each datum BY PROGRAM (the guide's laid-datum.mjs) off the statement by which the dump's own 'gosem.cut.vars' lays the variable. In a bare row this is a premise. The card (YtplbolhnmobmmaaDoorCards.lean) ties it to the program's text. -/
def laid_math_bits_deBruijn64tab {H : Type} : DataW H := .agg [.lit (.int .u8 0), .lit (.int .u8 1), .lit (.int .u8 56), .lit (.int .u8 2), .lit (.int .u8 57), .lit (.int .u8 49), .lit (.int .u8 28), .lit (.int .u8 3), .lit (.int .u8 61), .lit (.int .u8 58), .lit (.int .u8 42), .lit (.int .u8 50), .lit (.int .u8 38), .lit (.int .u8 29), .lit (.int .u8 17), .lit (.int .u8 4), .lit (.int .u8 62), .lit (.int .u8 47), .lit (.int .u8 59), .lit (.int .u8 36), .lit (.int .u8 45), .lit (.int .u8 43), .lit (.int .u8 51), .lit (.int .u8 22), .lit (.int .u8 53), .lit (.int .u8 39), .lit (.int .u8 33), .lit (.int .u8 30), .lit (.int .u8 24), .lit (.int .u8 18), .lit (.int .u8 12), .lit (.int .u8 5), .lit (.int .u8 63), .lit (.int .u8 55), .lit (.int .u8 48), .lit (.int .u8 27), .lit (.int .u8 60), .lit (.int .u8 41), .lit (.int .u8 37), .lit (.int .u8 16), .lit (.int .u8 46), .lit (.int .u8 35), .lit (.int .u8 44), .lit (.int .u8 21), .lit (.int .u8 52), .lit (.int .u8 32), .lit (.int .u8 23), .lit (.int .u8 11), .lit (.int .u8 54), .lit (.int .u8 26), .lit (.int .u8 40), .lit (.int .u8 15), .lit (.int .u8 34), .lit (.int .u8 20), .lit (.int .u8 31), .lit (.int .u8 10), .lit (.int .u8 25), .lit (.int .u8 14), .lit (.int .u8 19), .lit (.int .u8 9), .lit (.int .u8 13), .lit (.int .u8 8), .lit (.int .u8 7), .lit (.int .u8 6)]

/-- 'dendronlaw04.PolyLeast': WHATEVER THE INPUT: true; the input reads as it did. -/
def polyLeastSpec : ChangeSpec := { name := "polyLeast", fn := fun _ => fun
  | [d1, d2] => { results := [.lit (.bool true)], args := [d1, d2] }
  | _ => none }
def polyLeastRow : OpenClaim := { program := "ytplbolhnmobmmaadoor", sum := "15e9775616345638c1843f944c5df402a96eb8145bb8f1db813dec7cc9d2c177", func := "dendron/dendronlaw04.PolyLeast", spec := "polyLeast", named := ["math/bits.deBruijn64tab"], apart := false, laid := [("math/bits.deBruijn64tab", laid_math_bits_deBruijn64tab)] }
def PolyLeastSaid : Prop := polyLeastRow.holds Tryd.pinned (OpenSpec.ofChange polyLeastSpec)

/-- ITS FALSE NEIGHBOUR: 'it returns false'. Refute it at one input. -/
def polyLeastWrong : ChangeSpec := { name := "polyLeast", fn := fun _ => fun
  | [d1, d2] => { results := [.lit (.bool false)], args := [d1, d2] }
  | _ => none }
def PolyLeastWrongFalsely : Prop := polyLeastRow.holds Tryd.pinned (OpenSpec.ofChange polyLeastWrong)

/-- 'dendronlaw04.PolyGcds': WHATEVER THE INPUT: true; the input reads as it did. -/
def polyGcdsSpec : ChangeSpec := { name := "polyGcds", fn := fun _ => fun
  | [d1, d2, d3] => { results := [.lit (.bool true)], args := [d1, d2, d3] }
  | _ => none }
def polyGcdsRow : OpenClaim := { program := "ytplbolhnmobmmaadoor", sum := "15e9775616345638c1843f944c5df402a96eb8145bb8f1db813dec7cc9d2c177", func := "dendron/dendronlaw04.PolyGcds", spec := "polyGcds", named := ["math/bits.deBruijn64tab"], apart := false, laid := [("math/bits.deBruijn64tab", laid_math_bits_deBruijn64tab)] }
def PolyGcdsSaid : Prop := polyGcdsRow.holds Tryd.pinned (OpenSpec.ofChange polyGcdsSpec)

/-- ITS FALSE NEIGHBOUR: 'it returns false'. Refute it at one input. -/
def polyGcdsWrong : ChangeSpec := { name := "polyGcds", fn := fun _ => fun
  | [d1, d2, d3] => { results := [.lit (.bool false)], args := [d1, d2, d3] }
  | _ => none }
def PolyGcdsWrongFalsely : Prop := polyGcdsRow.holds Tryd.pinned (OpenSpec.ofChange polyGcdsWrong)

/-- 'dendronlaw04.PolyProducts': WHATEVER THE INPUT: true; the input reads as it did. -/
def polyProductsSpec : ChangeSpec := { name := "polyProducts", fn := fun _ => fun
  | [d1, d2, d3] => { results := [.lit (.bool true)], args := [d1, d2, d3] }
  | _ => none }
def polyProductsRow : OpenClaim := { program := "ytplbolhnmobmmaadoor", sum := "15e9775616345638c1843f944c5df402a96eb8145bb8f1db813dec7cc9d2c177", func := "dendron/dendronlaw04.PolyProducts", spec := "polyProducts", named := ["math/bits.deBruijn64tab"], apart := false, laid := [("math/bits.deBruijn64tab", laid_math_bits_deBruijn64tab)] }
def PolyProductsSaid : Prop := polyProductsRow.holds Tryd.pinned (OpenSpec.ofChange polyProductsSpec)

/-- ITS FALSE NEIGHBOUR: 'it returns false'. Refute it at one input. -/
def polyProductsWrong : ChangeSpec := { name := "polyProducts", fn := fun _ => fun
  | [d1, d2, d3] => { results := [.lit (.bool false)], args := [d1, d2, d3] }
  | _ => none }
def PolyProductsWrongFalsely : Prop := polyProductsRow.holds Tryd.pinned (OpenSpec.ofChange polyProductsWrong)

/-- 'dendronlaw04.PolySlopes': WHATEVER THE INPUT: true; the input reads as it did. -/
def polySlopesSpec : ChangeSpec := { name := "polySlopes", fn := fun _ => fun
  | [d1, d2, d3] => { results := [.lit (.bool true)], args := [d1, d2, d3] }
  | _ => none }
def polySlopesRow : OpenClaim := { program := "ytplbolhnmobmmaadoor", sum := "15e9775616345638c1843f944c5df402a96eb8145bb8f1db813dec7cc9d2c177", func := "dendron/dendronlaw04.PolySlopes", spec := "polySlopes", named := ["math/bits.deBruijn64tab"], apart := false, laid := [("math/bits.deBruijn64tab", laid_math_bits_deBruijn64tab)] }
def PolySlopesSaid : Prop := polySlopesRow.holds Tryd.pinned (OpenSpec.ofChange polySlopesSpec)

/-- ITS FALSE NEIGHBOUR: 'it returns false'. Refute it at one input. -/
def polySlopesWrong : ChangeSpec := { name := "polySlopes", fn := fun _ => fun
  | [d1, d2, d3] => { results := [.lit (.bool false)], args := [d1, d2, d3] }
  | _ => none }
def PolySlopesWrongFalsely : Prop := polySlopesRow.holds Tryd.pinned (OpenSpec.ofChange polySlopesWrong)

/-- 'dendronlaw04.PolySums': WHATEVER THE INPUT: true; the input reads as it did. -/
def polySumsSpec : ChangeSpec := { name := "polySums", fn := fun _ => fun
  | [d1, d2, d3] => { results := [.lit (.bool true)], args := [d1, d2, d3] }
  | _ => none }
def polySumsRow : OpenClaim := { program := "ytplbolhnmobmmaadoor", sum := "15e9775616345638c1843f944c5df402a96eb8145bb8f1db813dec7cc9d2c177", func := "dendron/dendronlaw04.PolySums", spec := "polySums", named := ["math/bits.deBruijn64tab"], apart := false, laid := [("math/bits.deBruijn64tab", laid_math_bits_deBruijn64tab)] }
def PolySumsSaid : Prop := polySumsRow.holds Tryd.pinned (OpenSpec.ofChange polySumsSpec)

/-- ITS FALSE NEIGHBOUR: 'it returns false'. Refute it at one input. -/
def polySumsWrong : ChangeSpec := { name := "polySums", fn := fun _ => fun
  | [d1, d2, d3] => { results := [.lit (.bool false)], args := [d1, d2, d3] }
  | _ => none }
def PolySumsWrongFalsely : Prop := polySumsRow.holds Tryd.pinned (OpenSpec.ofChange polySumsWrong)

/-- 'dendronlaw04.PolyDivides': WHATEVER THE INPUT: true; the input reads as it did. -/
def polyDividesSpec : ChangeSpec := { name := "polyDivides", fn := fun _ => fun
  | [d1, d2] => { results := [.lit (.bool true)], args := [d1, d2] }
  | _ => none }
def polyDividesRow : OpenClaim := { program := "ytplbolhnmobmmaadoor", sum := "15e9775616345638c1843f944c5df402a96eb8145bb8f1db813dec7cc9d2c177", func := "dendron/dendronlaw04.PolyDivides", spec := "polyDivides", named := ["math/bits.deBruijn64tab"], apart := false, laid := [("math/bits.deBruijn64tab", laid_math_bits_deBruijn64tab)] }
def PolyDividesSaid : Prop := polyDividesRow.holds Tryd.pinned (OpenSpec.ofChange polyDividesSpec)

/-- ITS FALSE NEIGHBOUR: 'it returns false'. Refute it at one input. -/
def polyDividesWrong : ChangeSpec := { name := "polyDivides", fn := fun _ => fun
  | [d1, d2] => { results := [.lit (.bool false)], args := [d1, d2] }
  | _ => none }
def PolyDividesWrongFalsely : Prop := polyDividesRow.holds Tryd.pinned (OpenSpec.ofChange polyDividesWrong)

/-- 'dendronlaw04.PolyChains': WHATEVER THE INPUT: true; the input reads as it did. -/
def polyChainsSpec : ChangeSpec := { name := "polyChains", fn := fun _ => fun
  | [d] => { results := [.lit (.bool true)], args := [d] }
  | _ => none }
def polyChainsRow : OpenClaim := { program := "ytplbolhnmobmmaadoor", sum := "15e9775616345638c1843f944c5df402a96eb8145bb8f1db813dec7cc9d2c177", func := "dendron/dendronlaw04.PolyChains", spec := "polyChains", named := ["math/bits.deBruijn64tab"], apart := false, laid := [("math/bits.deBruijn64tab", laid_math_bits_deBruijn64tab)] }
def PolyChainsSaid : Prop := polyChainsRow.holds Tryd.pinned (OpenSpec.ofChange polyChainsSpec)

/-- ITS FALSE NEIGHBOUR: 'it returns false'. Refute it at one input. -/
def polyChainsWrong : ChangeSpec := { name := "polyChains", fn := fun _ => fun
  | [d] => { results := [.lit (.bool false)], args := [d] }
  | _ => none }
def PolyChainsWrongFalsely : Prop := polyChainsRow.holds Tryd.pinned (OpenSpec.ofChange polyChainsWrong)

/-- 'dendronlaw04.PolyValues': WHATEVER THE INPUT: true; the input reads as it did. -/
def polyValuesSpec : ChangeSpec := { name := "polyValues", fn := fun _ => fun
  | [d1, d2, d3] => { results := [.lit (.bool true)], args := [d1, d2, d3] }
  | _ => none }
def polyValuesRow : OpenClaim := { program := "ytplbolhnmobmmaadoor", sum := "15e9775616345638c1843f944c5df402a96eb8145bb8f1db813dec7cc9d2c177", func := "dendron/dendronlaw04.PolyValues", spec := "polyValues", named := ["math/bits.deBruijn64tab"], apart := false, laid := [("math/bits.deBruijn64tab", laid_math_bits_deBruijn64tab)] }
def PolyValuesSaid : Prop := polyValuesRow.holds Tryd.pinned (OpenSpec.ofChange polyValuesSpec)

/-- ITS FALSE NEIGHBOUR: 'it returns false'. Refute it at one input. -/
def polyValuesWrong : ChangeSpec := { name := "polyValues", fn := fun _ => fun
  | [d1, d2, d3] => { results := [.lit (.bool false)], args := [d1, d2, d3] }
  | _ => none }
def PolyValuesWrongFalsely : Prop := polyValuesRow.holds Tryd.pinned (OpenSpec.ofChange polyValuesWrong)

/-- 'dendronlaw04.PolyThrough': WHATEVER THE INPUT: true; the input reads as it did. -/
def polyThroughSpec : ChangeSpec := { name := "polyThrough", fn := fun _ => fun
  | [d1, d2] => { results := [.lit (.bool true)], args := [d1, d2] }
  | _ => none }
def polyThroughRow : OpenClaim := { program := "ytplbolhnmobmmaadoor", sum := "15e9775616345638c1843f944c5df402a96eb8145bb8f1db813dec7cc9d2c177", func := "dendron/dendronlaw04.PolyThrough", spec := "polyThrough", named := ["math/bits.deBruijn64tab"], apart := false, laid := [("math/bits.deBruijn64tab", laid_math_bits_deBruijn64tab)] }
def PolyThroughSaid : Prop := polyThroughRow.holds Tryd.pinned (OpenSpec.ofChange polyThroughSpec)

/-- ITS FALSE NEIGHBOUR: 'it returns false'. Refute it at one input. -/
def polyThroughWrong : ChangeSpec := { name := "polyThrough", fn := fun _ => fun
  | [d1, d2] => { results := [.lit (.bool false)], args := [d1, d2] }
  | _ => none }
def PolyThroughWrongFalsely : Prop := polyThroughRow.holds Tryd.pinned (OpenSpec.ofChange polyThroughWrong)

/- THE SECOND FORM. 'bulk': how many values and letters a reading holds, each counted each time it is reached (what is shared counts as often as it is met; a slice's spare places count too). A statement '..UptoSaid' is the law's where the arguments, and the package variables that the reading takes, are together of bulk at most 1048576: NARROWER than '..Said'. Prove '..Said' where nothing that the law and all that it calls make is longer than what came in: it says more and counts as full. Else prove '..UptoSaid'. A law counts once. -/
mutual
def uptoBulk {H : Type} : DataW H → Nat
  | .lit (.string bytes) => bytes.length + 1
  | .lit _ => 1
  | .nil => 1
  | .ptr d => uptoBulk d + 1
  | .slice elems spare => uptoBulkAll elems + uptoBulkAll spare + 1
  | .agg parts => uptoBulkAll parts + 1
  | .iface _ d => uptoBulk d + 1
  | .map entries => uptoBulkEntries entries + 1
  | .held _ => 1
def uptoBulkAll {H : Type} : List (DataW H) → Nat
  | [] => 0
  | d :: r => uptoBulk d + uptoBulkAll r
def uptoBulkEntries {H : Type} : List (Lit × DataW H) → Nat
  | [] => 0
  | x :: r => uptoBulkEntry x + uptoBulkEntries r
def uptoBulkEntry {H : Type} : Lit × DataW H → Nat
  | (.string bytes, d) => bytes.length + uptoBulk d + 1
  | (_, d) => uptoBulk d + 1
 end
def uptoSmall : (H : Type) → List (DataW H) → Bool := fun _ ds => decide (uptoBulkAll ds ≤ 1048576)
def OpenSpec.upto (s : _root_.Go.ChangeSpec) : _root_.Go.OpenSpec := { _root_.Go.OpenSpec.ofChange s with cond := some uptoSmall }

/-- 'dendronlaw04.PolyLeast', WHERE WHAT IT READS IS OF BULK AT MOST 1048576: true; the input reads as it did. -/
def polyLeastUptoRow : OpenClaim := { program := "ytplbolhnmobmmaadoor", sum := "15e9775616345638c1843f944c5df402a96eb8145bb8f1db813dec7cc9d2c177", func := "dendron/dendronlaw04.PolyLeast", spec := "polyLeast", named := ["math/bits.deBruijn64tab"], apart := false, laid := [("math/bits.deBruijn64tab", laid_math_bits_deBruijn64tab)], narrowed := true }
def PolyLeastUptoSaid : Prop := polyLeastUptoRow.holds Tryd.pinned (OpenSpec.upto polyLeastSpec)

/-- 'dendronlaw04.PolyGcds', WHERE WHAT IT READS IS OF BULK AT MOST 1048576: true; the input reads as it did. -/
def polyGcdsUptoRow : OpenClaim := { program := "ytplbolhnmobmmaadoor", sum := "15e9775616345638c1843f944c5df402a96eb8145bb8f1db813dec7cc9d2c177", func := "dendron/dendronlaw04.PolyGcds", spec := "polyGcds", named := ["math/bits.deBruijn64tab"], apart := false, laid := [("math/bits.deBruijn64tab", laid_math_bits_deBruijn64tab)], narrowed := true }
def PolyGcdsUptoSaid : Prop := polyGcdsUptoRow.holds Tryd.pinned (OpenSpec.upto polyGcdsSpec)

/-- 'dendronlaw04.PolyProducts', WHERE WHAT IT READS IS OF BULK AT MOST 1048576: true; the input reads as it did. -/
def polyProductsUptoRow : OpenClaim := { program := "ytplbolhnmobmmaadoor", sum := "15e9775616345638c1843f944c5df402a96eb8145bb8f1db813dec7cc9d2c177", func := "dendron/dendronlaw04.PolyProducts", spec := "polyProducts", named := ["math/bits.deBruijn64tab"], apart := false, laid := [("math/bits.deBruijn64tab", laid_math_bits_deBruijn64tab)], narrowed := true }
def PolyProductsUptoSaid : Prop := polyProductsUptoRow.holds Tryd.pinned (OpenSpec.upto polyProductsSpec)

/-- 'dendronlaw04.PolySlopes', WHERE WHAT IT READS IS OF BULK AT MOST 1048576: true; the input reads as it did. -/
def polySlopesUptoRow : OpenClaim := { program := "ytplbolhnmobmmaadoor", sum := "15e9775616345638c1843f944c5df402a96eb8145bb8f1db813dec7cc9d2c177", func := "dendron/dendronlaw04.PolySlopes", spec := "polySlopes", named := ["math/bits.deBruijn64tab"], apart := false, laid := [("math/bits.deBruijn64tab", laid_math_bits_deBruijn64tab)], narrowed := true }
def PolySlopesUptoSaid : Prop := polySlopesUptoRow.holds Tryd.pinned (OpenSpec.upto polySlopesSpec)

/-- 'dendronlaw04.PolySums', WHERE WHAT IT READS IS OF BULK AT MOST 1048576: true; the input reads as it did. -/
def polySumsUptoRow : OpenClaim := { program := "ytplbolhnmobmmaadoor", sum := "15e9775616345638c1843f944c5df402a96eb8145bb8f1db813dec7cc9d2c177", func := "dendron/dendronlaw04.PolySums", spec := "polySums", named := ["math/bits.deBruijn64tab"], apart := false, laid := [("math/bits.deBruijn64tab", laid_math_bits_deBruijn64tab)], narrowed := true }
def PolySumsUptoSaid : Prop := polySumsUptoRow.holds Tryd.pinned (OpenSpec.upto polySumsSpec)

/-- 'dendronlaw04.PolyDivides', WHERE WHAT IT READS IS OF BULK AT MOST 1048576: true; the input reads as it did. -/
def polyDividesUptoRow : OpenClaim := { program := "ytplbolhnmobmmaadoor", sum := "15e9775616345638c1843f944c5df402a96eb8145bb8f1db813dec7cc9d2c177", func := "dendron/dendronlaw04.PolyDivides", spec := "polyDivides", named := ["math/bits.deBruijn64tab"], apart := false, laid := [("math/bits.deBruijn64tab", laid_math_bits_deBruijn64tab)], narrowed := true }
def PolyDividesUptoSaid : Prop := polyDividesUptoRow.holds Tryd.pinned (OpenSpec.upto polyDividesSpec)

/-- 'dendronlaw04.PolyChains', WHERE WHAT IT READS IS OF BULK AT MOST 1048576: true; the input reads as it did. -/
def polyChainsUptoRow : OpenClaim := { program := "ytplbolhnmobmmaadoor", sum := "15e9775616345638c1843f944c5df402a96eb8145bb8f1db813dec7cc9d2c177", func := "dendron/dendronlaw04.PolyChains", spec := "polyChains", named := ["math/bits.deBruijn64tab"], apart := false, laid := [("math/bits.deBruijn64tab", laid_math_bits_deBruijn64tab)], narrowed := true }
def PolyChainsUptoSaid : Prop := polyChainsUptoRow.holds Tryd.pinned (OpenSpec.upto polyChainsSpec)

/-- 'dendronlaw04.PolyValues', WHERE WHAT IT READS IS OF BULK AT MOST 1048576: true; the input reads as it did. -/
def polyValuesUptoRow : OpenClaim := { program := "ytplbolhnmobmmaadoor", sum := "15e9775616345638c1843f944c5df402a96eb8145bb8f1db813dec7cc9d2c177", func := "dendron/dendronlaw04.PolyValues", spec := "polyValues", named := ["math/bits.deBruijn64tab"], apart := false, laid := [("math/bits.deBruijn64tab", laid_math_bits_deBruijn64tab)], narrowed := true }
def PolyValuesUptoSaid : Prop := polyValuesUptoRow.holds Tryd.pinned (OpenSpec.upto polyValuesSpec)

/-- 'dendronlaw04.PolyThrough', WHERE WHAT IT READS IS OF BULK AT MOST 1048576: true; the input reads as it did. -/
def polyThroughUptoRow : OpenClaim := { program := "ytplbolhnmobmmaadoor", sum := "15e9775616345638c1843f944c5df402a96eb8145bb8f1db813dec7cc9d2c177", func := "dendron/dendronlaw04.PolyThrough", spec := "polyThrough", named := ["math/bits.deBruijn64tab"], apart := false, laid := [("math/bits.deBruijn64tab", laid_math_bits_deBruijn64tab)], narrowed := true }
def PolyThroughUptoSaid : Prop := polyThroughUptoRow.holds Tryd.pinned (OpenSpec.upto polyThroughSpec)

end Rows
end Go.Proofs.YtplbolhnmobmmaaDoor
