/-
  No cell of these rows narrows 'for every input' (looked for: loops, veiled, ifaces, maps, wideKeys, modest, calm, conditions, laid).
  DERIVED. THE GIVEN ROWS OF THIS SEAT. 18 by the template 'for every input the law returns true; each argument reads behind the call as it read before'; 0 by the template 'total and deterministic' (their statements: YtfnhpojoaaegmaaTotals.lean).
  GIVEN WITH THE SEED: the statements are not yours to turn. If you find one false, say at which input.
  Laid BY PROGRAM, IN A SANDBOX (cutbox-rows.mjs): the forced cells as the released guide's own fill.sh prints them over the translation 1595c8a2b5eaa4a0… (all of the seat's roots in one cut). By AI agents, Wed Nov 11 2026. No macro, syntax, notation, axiom, sorry.
-/
import Derived.Test.YtfnhpojoaaegmaaChecked
import GoSem.Claim
import GoSem.ClaimJoined
import GoSem.ClaimMapViews
import Derived.JoinedTies
import Derived.KernelRfl
namespace Go.Proofs.Ytfnhpojoaaegmaa
/- THE CELL 'sum', in the pinned program and in every row, IS THE sha256 OF THE DUMP (.gsa) THAT YtfnhpojoaaegmaaProg.lean LOADS. Nothing in Lean hashes anything: it is a label: what it is worth is what the hold of that sum in a sandbox is worth. -/
noncomputable def Try.pinned : Pinned := { name := "ytfnhpojoaaegmaa", sum := "1595c8a2b5eaa4a0fb60afb8f98bdc7a8882b935b937e3dc6ecc0eacc4fdb646", checked := Try.checked }
namespace Rows
def none {H : Type} : Left H := { results := [], args := [] }

/-- 'dendronlaw30.LimitApart': WHATEVER THE INPUT: true; the input reads as it did. -/
def limitApartSpec : ChangeSpec := { name := "limitApart", fn := fun _ => fun
  | [d1, d2] => { results := [.lit (.bool true)], args := [d1, d2] }
  | _ => none }
def limitApartRow : OpenClaim := { program := "ytfnhpojoaaegmaa", sum := "1595c8a2b5eaa4a0fb60afb8f98bdc7a8882b935b937e3dc6ecc0eacc4fdb646", func := "dendron/dendronlaw30.LimitApart", spec := "limitApart", inPlace := ["sync/atomic.AddInt64", "sync/atomic.StoreInt64", "sync/atomic.LoadInt64"], apart := false }
def LimitApartSaid : Prop := limitApartRow.holds Try.pinned (OpenSpec.ofChange limitApartSpec)

/-- ITS FALSE NEIGHBOUR: 'it returns false'. Refute it at one input. -/
def limitApartWrong : ChangeSpec := { name := "limitApart", fn := fun _ => fun
  | [d1, d2] => { results := [.lit (.bool false)], args := [d1, d2] }
  | _ => none }
def LimitApartWrongFalsely : Prop := limitApartRow.holds Try.pinned (OpenSpec.ofChange limitApartWrong)

/-- 'dendronlaw30.LimitRights': WHATEVER THE INPUT: true; the input reads as it did. -/
def limitRightsSpec : ChangeSpec := { name := "limitRights", fn := fun _ => fun
  | [d] => { results := [.lit (.bool true)], args := [d] }
  | _ => none }
def limitRightsRow : OpenClaim := { program := "ytfnhpojoaaegmaa", sum := "1595c8a2b5eaa4a0fb60afb8f98bdc7a8882b935b937e3dc6ecc0eacc4fdb646", func := "dendron/dendronlaw30.LimitRights", spec := "limitRights", inPlace := ["sync/atomic.StoreInt64", "sync/atomic.AddInt64", "sync/atomic.LoadInt64"], apart := false }
def LimitRightsSaid : Prop := limitRightsRow.holds Try.pinned (OpenSpec.ofChange limitRightsSpec)

/-- ITS FALSE NEIGHBOUR: 'it returns false'. Refute it at one input. -/
def limitRightsWrong : ChangeSpec := { name := "limitRights", fn := fun _ => fun
  | [d] => { results := [.lit (.bool false)], args := [d] }
  | _ => none }
def LimitRightsWrongFalsely : Prop := limitRightsRow.holds Try.pinned (OpenSpec.ofChange limitRightsWrong)

/-- 'dendronlaw30.LimitNobody': WHATEVER THE INPUT: true; the input reads as it did. -/
def limitNobodySpec : ChangeSpec := { name := "limitNobody", fn := fun _ => fun
  | [d] => { results := [.lit (.bool true)], args := [d] }
  | _ => none }
def limitNobodyRow : OpenClaim := { program := "ytfnhpojoaaegmaa", sum := "1595c8a2b5eaa4a0fb60afb8f98bdc7a8882b935b937e3dc6ecc0eacc4fdb646", func := "dendron/dendronlaw30.LimitNobody", spec := "limitNobody", inPlace := ["sync/atomic.AddInt64", "sync/atomic.LoadInt64", "sync/atomic.StoreInt64"], apart := false }
def LimitNobodySaid : Prop := limitNobodyRow.holds Try.pinned (OpenSpec.ofChange limitNobodySpec)

/-- ITS FALSE NEIGHBOUR: 'it returns false'. Refute it at one input. -/
def limitNobodyWrong : ChangeSpec := { name := "limitNobody", fn := fun _ => fun
  | [d] => { results := [.lit (.bool false)], args := [d] }
  | _ => none }
def LimitNobodyWrongFalsely : Prop := limitNobodyRow.holds Try.pinned (OpenSpec.ofChange limitNobodyWrong)

/-- 'dendronlaw30.LimitMeters': WHATEVER THE INPUT: true; the input reads as it did. -/
def limitMetersSpec : ChangeSpec := { name := "limitMeters", fn := fun _ => fun
  | [d1, d2] => { results := [.lit (.bool true)], args := [d1, d2] }
  | _ => none }
def limitMetersRow : OpenClaim := { program := "ytfnhpojoaaegmaa", sum := "1595c8a2b5eaa4a0fb60afb8f98bdc7a8882b935b937e3dc6ecc0eacc4fdb646", func := "dendron/dendronlaw30.LimitMeters", spec := "limitMeters", inPlace := ["sync/atomic.StoreInt64", "sync/atomic.AddInt64", "sync/atomic.LoadInt64"], apart := false }
def LimitMetersSaid : Prop := limitMetersRow.holds Try.pinned (OpenSpec.ofChange limitMetersSpec)

/-- ITS FALSE NEIGHBOUR: 'it returns false'. Refute it at one input. -/
def limitMetersWrong : ChangeSpec := { name := "limitMeters", fn := fun _ => fun
  | [d1, d2] => { results := [.lit (.bool false)], args := [d1, d2] }
  | _ => none }
def LimitMetersWrongFalsely : Prop := limitMetersRow.holds Try.pinned (OpenSpec.ofChange limitMetersWrong)

/-- 'dendronlaw01.NatProducts': WHATEVER THE INPUT: true; the input reads as it did. -/
def natProductsSpec : ChangeSpec := { name := "natProducts", fn := fun _ => fun
  | [d1, d2] => { results := [.lit (.bool true)], args := [d1, d2] }
  | _ => none }
def natProductsRow : OpenClaim := { program := "ytfnhpojoaaegmaa", sum := "1595c8a2b5eaa4a0fb60afb8f98bdc7a8882b935b937e3dc6ecc0eacc4fdb646", func := "dendron/dendronlaw01.NatProducts", spec := "natProducts", apart := false }
def NatProductsSaid : Prop := natProductsRow.holds Try.pinned (OpenSpec.ofChange natProductsSpec)

/-- ITS FALSE NEIGHBOUR: 'it returns false'. Refute it at one input. -/
def natProductsWrong : ChangeSpec := { name := "natProducts", fn := fun _ => fun
  | [d1, d2] => { results := [.lit (.bool false)], args := [d1, d2] }
  | _ => none }
def NatProductsWrongFalsely : Prop := natProductsRow.holds Try.pinned (OpenSpec.ofChange natProductsWrong)

/-- 'dendronlaw01.NatQuotients': WHATEVER THE INPUT: true; the input reads as it did. -/
def natQuotientsSpec : ChangeSpec := { name := "natQuotients", fn := fun _ => fun
  | [d1, d2] => { results := [.lit (.bool true)], args := [d1, d2] }
  | _ => none }
def natQuotientsRow : OpenClaim := { program := "ytfnhpojoaaegmaa", sum := "1595c8a2b5eaa4a0fb60afb8f98bdc7a8882b935b937e3dc6ecc0eacc4fdb646", func := "dendron/dendronlaw01.NatQuotients", spec := "natQuotients", apart := false }
def NatQuotientsSaid : Prop := natQuotientsRow.holds Try.pinned (OpenSpec.ofChange natQuotientsSpec)

/-- ITS FALSE NEIGHBOUR: 'it returns false'. Refute it at one input. -/
def natQuotientsWrong : ChangeSpec := { name := "natQuotients", fn := fun _ => fun
  | [d1, d2] => { results := [.lit (.bool false)], args := [d1, d2] }
  | _ => none }
def NatQuotientsWrongFalsely : Prop := natQuotientsRow.holds Try.pinned (OpenSpec.ofChange natQuotientsWrong)

/-- 'dendronlaw01.NatReads': WHATEVER THE INPUT: true; the input reads as it did. -/
def natReadsSpec : ChangeSpec := { name := "natReads", fn := fun _ => fun
  | [d] => { results := [.lit (.bool true)], args := [d] }
  | _ => none }
def natReadsRow : OpenClaim := { program := "ytfnhpojoaaegmaa", sum := "1595c8a2b5eaa4a0fb60afb8f98bdc7a8882b935b937e3dc6ecc0eacc4fdb646", func := "dendron/dendronlaw01.NatReads", spec := "natReads", apart := false }
def NatReadsSaid : Prop := natReadsRow.holds Try.pinned (OpenSpec.ofChange natReadsSpec)

/-- ITS FALSE NEIGHBOUR: 'it returns false'. Refute it at one input. -/
def natReadsWrong : ChangeSpec := { name := "natReads", fn := fun _ => fun
  | [d] => { results := [.lit (.bool false)], args := [d] }
  | _ => none }
def NatReadsWrongFalsely : Prop := natReadsRow.holds Try.pinned (OpenSpec.ofChange natReadsWrong)

/-- 'dendronlaw01.NatOrders': WHATEVER THE INPUT: true; the input reads as it did. -/
def natOrdersSpec : ChangeSpec := { name := "natOrders", fn := fun _ => fun
  | [d1, d2] => { results := [.lit (.bool true)], args := [d1, d2] }
  | _ => none }
def natOrdersRow : OpenClaim := { program := "ytfnhpojoaaegmaa", sum := "1595c8a2b5eaa4a0fb60afb8f98bdc7a8882b935b937e3dc6ecc0eacc4fdb646", func := "dendron/dendronlaw01.NatOrders", spec := "natOrders", apart := false }
def NatOrdersSaid : Prop := natOrdersRow.holds Try.pinned (OpenSpec.ofChange natOrdersSpec)

/-- ITS FALSE NEIGHBOUR: 'it returns false'. Refute it at one input. -/
def natOrdersWrong : ChangeSpec := { name := "natOrders", fn := fun _ => fun
  | [d1, d2] => { results := [.lit (.bool false)], args := [d1, d2] }
  | _ => none }
def NatOrdersWrongFalsely : Prop := natOrdersRow.holds Try.pinned (OpenSpec.ofChange natOrdersWrong)

/-- 'dendronlaw01.NatTexts': WHATEVER THE INPUT: true; the input reads as it did. -/
def natTextsSpec : ChangeSpec := { name := "natTexts", fn := fun _ => fun
  | [d] => { results := [.lit (.bool true)], args := [d] }
  | _ => none }
def natTextsRow : OpenClaim := { program := "ytfnhpojoaaegmaa", sum := "1595c8a2b5eaa4a0fb60afb8f98bdc7a8882b935b937e3dc6ecc0eacc4fdb646", func := "dendron/dendronlaw01.NatTexts", spec := "natTexts", apart := false }
def NatTextsSaid : Prop := natTextsRow.holds Try.pinned (OpenSpec.ofChange natTextsSpec)

/-- ITS FALSE NEIGHBOUR: 'it returns false'. Refute it at one input. -/
def natTextsWrong : ChangeSpec := { name := "natTexts", fn := fun _ => fun
  | [d] => { results := [.lit (.bool false)], args := [d] }
  | _ => none }
def NatTextsWrongFalsely : Prop := natTextsRow.holds Try.pinned (OpenSpec.ofChange natTextsWrong)

/-- 'dendronlaw01.NatSmalls': WHATEVER THE INPUT: true; the input reads as it did. -/
def natSmallsSpec : ChangeSpec := { name := "natSmalls", fn := fun _ => fun
  | [d] => { results := [.lit (.bool true)], args := [d] }
  | _ => none }
def natSmallsRow : OpenClaim := { program := "ytfnhpojoaaegmaa", sum := "1595c8a2b5eaa4a0fb60afb8f98bdc7a8882b935b937e3dc6ecc0eacc4fdb646", func := "dendron/dendronlaw01.NatSmalls", spec := "natSmalls", apart := false }
def NatSmallsSaid : Prop := natSmallsRow.holds Try.pinned (OpenSpec.ofChange natSmallsSpec)

/-- ITS FALSE NEIGHBOUR: 'it returns false'. Refute it at one input. -/
def natSmallsWrong : ChangeSpec := { name := "natSmalls", fn := fun _ => fun
  | [d] => { results := [.lit (.bool false)], args := [d] }
  | _ => none }
def NatSmallsWrongFalsely : Prop := natSmallsRow.holds Try.pinned (OpenSpec.ofChange natSmallsWrong)

/-- 'dendronlaw01.NatShifts': WHATEVER THE INPUT: true; the input reads as it did. -/
def natShiftsSpec : ChangeSpec := { name := "natShifts", fn := fun _ => fun
  | [d1, d2] => { results := [.lit (.bool true)], args := [d1, d2] }
  | _ => none }
def natShiftsRow : OpenClaim := { program := "ytfnhpojoaaegmaa", sum := "1595c8a2b5eaa4a0fb60afb8f98bdc7a8882b935b937e3dc6ecc0eacc4fdb646", func := "dendron/dendronlaw01.NatShifts", spec := "natShifts", apart := false }
def NatShiftsSaid : Prop := natShiftsRow.holds Try.pinned (OpenSpec.ofChange natShiftsSpec)

/-- ITS FALSE NEIGHBOUR: 'it returns false'. Refute it at one input. -/
def natShiftsWrong : ChangeSpec := { name := "natShifts", fn := fun _ => fun
  | [d1, d2] => { results := [.lit (.bool false)], args := [d1, d2] }
  | _ => none }
def NatShiftsWrongFalsely : Prop := natShiftsRow.holds Try.pinned (OpenSpec.ofChange natShiftsWrong)

/-- 'dendronlaw01.NatDivides': WHATEVER THE INPUT: true; the input reads as it did. -/
def natDividesSpec : ChangeSpec := { name := "natDivides", fn := fun _ => fun
  | [d1, d2] => { results := [.lit (.bool true)], args := [d1, d2] }
  | _ => none }
def natDividesRow : OpenClaim := { program := "ytfnhpojoaaegmaa", sum := "1595c8a2b5eaa4a0fb60afb8f98bdc7a8882b935b937e3dc6ecc0eacc4fdb646", func := "dendron/dendronlaw01.NatDivides", spec := "natDivides", apart := false }
def NatDividesSaid : Prop := natDividesRow.holds Try.pinned (OpenSpec.ofChange natDividesSpec)

/-- ITS FALSE NEIGHBOUR: 'it returns false'. Refute it at one input. -/
def natDividesWrong : ChangeSpec := { name := "natDivides", fn := fun _ => fun
  | [d1, d2] => { results := [.lit (.bool false)], args := [d1, d2] }
  | _ => none }
def NatDividesWrongFalsely : Prop := natDividesRow.holds Try.pinned (OpenSpec.ofChange natDividesWrong)

/-- 'dendronlaw01.NatLong': WHATEVER THE INPUT: true; the input reads as it did. -/
def natLongSpec : ChangeSpec := { name := "natLong", fn := fun _ => fun
  | [d1, d2] => { results := [.lit (.bool true)], args := [d1, d2] }
  | _ => none }
def natLongRow : OpenClaim := { program := "ytfnhpojoaaegmaa", sum := "1595c8a2b5eaa4a0fb60afb8f98bdc7a8882b935b937e3dc6ecc0eacc4fdb646", func := "dendron/dendronlaw01.NatLong", spec := "natLong", apart := false }
def NatLongSaid : Prop := natLongRow.holds Try.pinned (OpenSpec.ofChange natLongSpec)

/-- ITS FALSE NEIGHBOUR: 'it returns false'. Refute it at one input. -/
def natLongWrong : ChangeSpec := { name := "natLong", fn := fun _ => fun
  | [d1, d2] => { results := [.lit (.bool false)], args := [d1, d2] }
  | _ => none }
def NatLongWrongFalsely : Prop := natLongRow.holds Try.pinned (OpenSpec.ofChange natLongWrong)

/-- 'dendronlaw01.NatSums': WHATEVER THE INPUT: true; the input reads as it did. -/
def natSumsSpec : ChangeSpec := { name := "natSums", fn := fun _ => fun
  | [d1, d2] => { results := [.lit (.bool true)], args := [d1, d2] }
  | _ => none }
def natSumsRow : OpenClaim := { program := "ytfnhpojoaaegmaa", sum := "1595c8a2b5eaa4a0fb60afb8f98bdc7a8882b935b937e3dc6ecc0eacc4fdb646", func := "dendron/dendronlaw01.NatSums", spec := "natSums", apart := false }
def NatSumsSaid : Prop := natSumsRow.holds Try.pinned (OpenSpec.ofChange natSumsSpec)

/-- ITS FALSE NEIGHBOUR: 'it returns false'. Refute it at one input. -/
def natSumsWrong : ChangeSpec := { name := "natSums", fn := fun _ => fun
  | [d1, d2] => { results := [.lit (.bool false)], args := [d1, d2] }
  | _ => none }
def NatSumsWrongFalsely : Prop := natSumsRow.holds Try.pinned (OpenSpec.ofChange natSumsWrong)

/-- 'dendronlaw01.NatForms': WHATEVER THE INPUT: true; the input reads as it did. -/
def natFormsSpec : ChangeSpec := { name := "natForms", fn := fun _ => fun
  | [d] => { results := [.lit (.bool true)], args := [d] }
  | _ => none }
def natFormsRow : OpenClaim := { program := "ytfnhpojoaaegmaa", sum := "1595c8a2b5eaa4a0fb60afb8f98bdc7a8882b935b937e3dc6ecc0eacc4fdb646", func := "dendron/dendronlaw01.NatForms", spec := "natForms", apart := false }
def NatFormsSaid : Prop := natFormsRow.holds Try.pinned (OpenSpec.ofChange natFormsSpec)

/-- ITS FALSE NEIGHBOUR: 'it returns false'. Refute it at one input. -/
def natFormsWrong : ChangeSpec := { name := "natForms", fn := fun _ => fun
  | [d] => { results := [.lit (.bool false)], args := [d] }
  | _ => none }
def NatFormsWrongFalsely : Prop := natFormsRow.holds Try.pinned (OpenSpec.ofChange natFormsWrong)

/-- 'dendronlaw01.NatBits': WHATEVER THE INPUT: true; the input reads as it did. -/
def natBitsSpec : ChangeSpec := { name := "natBits", fn := fun _ => fun
  | [d1, d2] => { results := [.lit (.bool true)], args := [d1, d2] }
  | _ => none }
def natBitsRow : OpenClaim := { program := "ytfnhpojoaaegmaa", sum := "1595c8a2b5eaa4a0fb60afb8f98bdc7a8882b935b937e3dc6ecc0eacc4fdb646", func := "dendron/dendronlaw01.NatBits", spec := "natBits", apart := false }
def NatBitsSaid : Prop := natBitsRow.holds Try.pinned (OpenSpec.ofChange natBitsSpec)

/-- ITS FALSE NEIGHBOUR: 'it returns false'. Refute it at one input. -/
def natBitsWrong : ChangeSpec := { name := "natBits", fn := fun _ => fun
  | [d1, d2] => { results := [.lit (.bool false)], args := [d1, d2] }
  | _ => none }
def NatBitsWrongFalsely : Prop := natBitsRow.holds Try.pinned (OpenSpec.ofChange natBitsWrong)

/-- 'dendronlaw01.NatRoots': WHATEVER THE INPUT: true; the input reads as it did. -/
def natRootsSpec : ChangeSpec := { name := "natRoots", fn := fun _ => fun
  | [d] => { results := [.lit (.bool true)], args := [d] }
  | _ => none }
def natRootsRow : OpenClaim := { program := "ytfnhpojoaaegmaa", sum := "1595c8a2b5eaa4a0fb60afb8f98bdc7a8882b935b937e3dc6ecc0eacc4fdb646", func := "dendron/dendronlaw01.NatRoots", spec := "natRoots", apart := false }
def NatRootsSaid : Prop := natRootsRow.holds Try.pinned (OpenSpec.ofChange natRootsSpec)

/-- ITS FALSE NEIGHBOUR: 'it returns false'. Refute it at one input. -/
def natRootsWrong : ChangeSpec := { name := "natRoots", fn := fun _ => fun
  | [d] => { results := [.lit (.bool false)], args := [d] }
  | _ => none }
def NatRootsWrongFalsely : Prop := natRootsRow.holds Try.pinned (OpenSpec.ofChange natRootsWrong)

/-- 'dendronlaw01.NatPowers': WHATEVER THE INPUT: true; the input reads as it did. -/
def natPowersSpec : ChangeSpec := { name := "natPowers", fn := fun _ => fun
  | [d1, d2, d3] => { results := [.lit (.bool true)], args := [d1, d2, d3] }
  | _ => none }
def natPowersRow : OpenClaim := { program := "ytfnhpojoaaegmaa", sum := "1595c8a2b5eaa4a0fb60afb8f98bdc7a8882b935b937e3dc6ecc0eacc4fdb646", func := "dendron/dendronlaw01.NatPowers", spec := "natPowers", apart := false }
def NatPowersSaid : Prop := natPowersRow.holds Try.pinned (OpenSpec.ofChange natPowersSpec)

/-- ITS FALSE NEIGHBOUR: 'it returns false'. Refute it at one input. -/
def natPowersWrong : ChangeSpec := { name := "natPowers", fn := fun _ => fun
  | [d1, d2, d3] => { results := [.lit (.bool false)], args := [d1, d2, d3] }
  | _ => none }
def NatPowersWrongFalsely : Prop := natPowersRow.holds Try.pinned (OpenSpec.ofChange natPowersWrong)

/- THE SECOND FORM. 'bulk': how many values and letters a reading holds, each counted each time it is reached (what is shared counts as often as it is met; a slice's spare places count too). A statement '..UptoSaid' is the law's where the arguments, and the package variables that the reading takes, are together of bulk at most 1048576: NARROWER than '..Said'. Prove '..Said' where nothing that the law and all that it calls make is longer than what came in: it says more and counts as full. Else prove '..UptoSaid'. A law counts once. -/
mutual
def uptoBulk {H : Type} : DataW H → Nat
  | .lit (.string bytes) => bytes.length + 1
  | .lit _ => 1
  | .nil => 1
  | .ptr d => uptoBulk d + 1
  | .slice elems spare => uptoBulkAll elems + uptoBulkAll spare + 1
  | .agg parts => uptoBulkAll parts + 1
  | .iface _ d => uptoBulk d + 1
  | .map entries => uptoBulkEntries entries + 1
  | .held _ => 1
def uptoBulkAll {H : Type} : List (DataW H) → Nat
  | [] => 0
  | d :: r => uptoBulk d + uptoBulkAll r
def uptoBulkEntries {H : Type} : List (Lit × DataW H) → Nat
  | [] => 0
  | x :: r => uptoBulkEntry x + uptoBulkEntries r
def uptoBulkEntry {H : Type} : Lit × DataW H → Nat
  | (.string bytes, d) => bytes.length + uptoBulk d + 1
  | (_, d) => uptoBulk d + 1
 end
def uptoSmall : (H : Type) → List (DataW H) → Bool := fun _ ds => decide (uptoBulkAll ds ≤ 1048576)
def OpenSpec.upto (s : _root_.Go.ChangeSpec) : _root_.Go.OpenSpec := { _root_.Go.OpenSpec.ofChange s with cond := some uptoSmall }

/-- 'dendronlaw30.LimitApart', WHERE WHAT IT READS IS OF BULK AT MOST 1048576: true; the input reads as it did. -/
def limitApartUptoRow : OpenClaim := { program := "ytfnhpojoaaegmaa", sum := "1595c8a2b5eaa4a0fb60afb8f98bdc7a8882b935b937e3dc6ecc0eacc4fdb646", func := "dendron/dendronlaw30.LimitApart", spec := "limitApart", inPlace := ["sync/atomic.AddInt64", "sync/atomic.StoreInt64", "sync/atomic.LoadInt64"], apart := false, narrowed := true }
def LimitApartUptoSaid : Prop := limitApartUptoRow.holds Try.pinned (OpenSpec.upto limitApartSpec)

/-- 'dendronlaw30.LimitRights', WHERE WHAT IT READS IS OF BULK AT MOST 1048576: true; the input reads as it did. -/
def limitRightsUptoRow : OpenClaim := { program := "ytfnhpojoaaegmaa", sum := "1595c8a2b5eaa4a0fb60afb8f98bdc7a8882b935b937e3dc6ecc0eacc4fdb646", func := "dendron/dendronlaw30.LimitRights", spec := "limitRights", inPlace := ["sync/atomic.StoreInt64", "sync/atomic.AddInt64", "sync/atomic.LoadInt64"], apart := false, narrowed := true }
def LimitRightsUptoSaid : Prop := limitRightsUptoRow.holds Try.pinned (OpenSpec.upto limitRightsSpec)

/-- 'dendronlaw30.LimitNobody', WHERE WHAT IT READS IS OF BULK AT MOST 1048576: true; the input reads as it did. -/
def limitNobodyUptoRow : OpenClaim := { program := "ytfnhpojoaaegmaa", sum := "1595c8a2b5eaa4a0fb60afb8f98bdc7a8882b935b937e3dc6ecc0eacc4fdb646", func := "dendron/dendronlaw30.LimitNobody", spec := "limitNobody", inPlace := ["sync/atomic.AddInt64", "sync/atomic.LoadInt64", "sync/atomic.StoreInt64"], apart := false, narrowed := true }
def LimitNobodyUptoSaid : Prop := limitNobodyUptoRow.holds Try.pinned (OpenSpec.upto limitNobodySpec)

/-- 'dendronlaw30.LimitMeters', WHERE WHAT IT READS IS OF BULK AT MOST 1048576: true; the input reads as it did. -/
def limitMetersUptoRow : OpenClaim := { program := "ytfnhpojoaaegmaa", sum := "1595c8a2b5eaa4a0fb60afb8f98bdc7a8882b935b937e3dc6ecc0eacc4fdb646", func := "dendron/dendronlaw30.LimitMeters", spec := "limitMeters", inPlace := ["sync/atomic.StoreInt64", "sync/atomic.AddInt64", "sync/atomic.LoadInt64"], apart := false, narrowed := true }
def LimitMetersUptoSaid : Prop := limitMetersUptoRow.holds Try.pinned (OpenSpec.upto limitMetersSpec)

/-- 'dendronlaw01.NatProducts', WHERE WHAT IT READS IS OF BULK AT MOST 1048576: true; the input reads as it did. -/
def natProductsUptoRow : OpenClaim := { program := "ytfnhpojoaaegmaa", sum := "1595c8a2b5eaa4a0fb60afb8f98bdc7a8882b935b937e3dc6ecc0eacc4fdb646", func := "dendron/dendronlaw01.NatProducts", spec := "natProducts", apart := false, narrowed := true }
def NatProductsUptoSaid : Prop := natProductsUptoRow.holds Try.pinned (OpenSpec.upto natProductsSpec)

/-- 'dendronlaw01.NatQuotients', WHERE WHAT IT READS IS OF BULK AT MOST 1048576: true; the input reads as it did. -/
def natQuotientsUptoRow : OpenClaim := { program := "ytfnhpojoaaegmaa", sum := "1595c8a2b5eaa4a0fb60afb8f98bdc7a8882b935b937e3dc6ecc0eacc4fdb646", func := "dendron/dendronlaw01.NatQuotients", spec := "natQuotients", apart := false, narrowed := true }
def NatQuotientsUptoSaid : Prop := natQuotientsUptoRow.holds Try.pinned (OpenSpec.upto natQuotientsSpec)

/-- 'dendronlaw01.NatReads', WHERE WHAT IT READS IS OF BULK AT MOST 1048576: true; the input reads as it did. -/
def natReadsUptoRow : OpenClaim := { program := "ytfnhpojoaaegmaa", sum := "1595c8a2b5eaa4a0fb60afb8f98bdc7a8882b935b937e3dc6ecc0eacc4fdb646", func := "dendron/dendronlaw01.NatReads", spec := "natReads", apart := false, narrowed := true }
def NatReadsUptoSaid : Prop := natReadsUptoRow.holds Try.pinned (OpenSpec.upto natReadsSpec)

/-- 'dendronlaw01.NatOrders', WHERE WHAT IT READS IS OF BULK AT MOST 1048576: true; the input reads as it did. -/
def natOrdersUptoRow : OpenClaim := { program := "ytfnhpojoaaegmaa", sum := "1595c8a2b5eaa4a0fb60afb8f98bdc7a8882b935b937e3dc6ecc0eacc4fdb646", func := "dendron/dendronlaw01.NatOrders", spec := "natOrders", apart := false, narrowed := true }
def NatOrdersUptoSaid : Prop := natOrdersUptoRow.holds Try.pinned (OpenSpec.upto natOrdersSpec)

/-- 'dendronlaw01.NatTexts', WHERE WHAT IT READS IS OF BULK AT MOST 1048576: true; the input reads as it did. -/
def natTextsUptoRow : OpenClaim := { program := "ytfnhpojoaaegmaa", sum := "1595c8a2b5eaa4a0fb60afb8f98bdc7a8882b935b937e3dc6ecc0eacc4fdb646", func := "dendron/dendronlaw01.NatTexts", spec := "natTexts", apart := false, narrowed := true }
def NatTextsUptoSaid : Prop := natTextsUptoRow.holds Try.pinned (OpenSpec.upto natTextsSpec)

/-- 'dendronlaw01.NatSmalls', WHERE WHAT IT READS IS OF BULK AT MOST 1048576: true; the input reads as it did. -/
def natSmallsUptoRow : OpenClaim := { program := "ytfnhpojoaaegmaa", sum := "1595c8a2b5eaa4a0fb60afb8f98bdc7a8882b935b937e3dc6ecc0eacc4fdb646", func := "dendron/dendronlaw01.NatSmalls", spec := "natSmalls", apart := false, narrowed := true }
def NatSmallsUptoSaid : Prop := natSmallsUptoRow.holds Try.pinned (OpenSpec.upto natSmallsSpec)

/-- 'dendronlaw01.NatShifts', WHERE WHAT IT READS IS OF BULK AT MOST 1048576: true; the input reads as it did. -/
def natShiftsUptoRow : OpenClaim := { program := "ytfnhpojoaaegmaa", sum := "1595c8a2b5eaa4a0fb60afb8f98bdc7a8882b935b937e3dc6ecc0eacc4fdb646", func := "dendron/dendronlaw01.NatShifts", spec := "natShifts", apart := false, narrowed := true }
def NatShiftsUptoSaid : Prop := natShiftsUptoRow.holds Try.pinned (OpenSpec.upto natShiftsSpec)

/-- 'dendronlaw01.NatDivides', WHERE WHAT IT READS IS OF BULK AT MOST 1048576: true; the input reads as it did. -/
def natDividesUptoRow : OpenClaim := { program := "ytfnhpojoaaegmaa", sum := "1595c8a2b5eaa4a0fb60afb8f98bdc7a8882b935b937e3dc6ecc0eacc4fdb646", func := "dendron/dendronlaw01.NatDivides", spec := "natDivides", apart := false, narrowed := true }
def NatDividesUptoSaid : Prop := natDividesUptoRow.holds Try.pinned (OpenSpec.upto natDividesSpec)

/-- 'dendronlaw01.NatLong', WHERE WHAT IT READS IS OF BULK AT MOST 1048576: true; the input reads as it did. -/
def natLongUptoRow : OpenClaim := { program := "ytfnhpojoaaegmaa", sum := "1595c8a2b5eaa4a0fb60afb8f98bdc7a8882b935b937e3dc6ecc0eacc4fdb646", func := "dendron/dendronlaw01.NatLong", spec := "natLong", apart := false, narrowed := true }
def NatLongUptoSaid : Prop := natLongUptoRow.holds Try.pinned (OpenSpec.upto natLongSpec)

/-- 'dendronlaw01.NatSums', WHERE WHAT IT READS IS OF BULK AT MOST 1048576: true; the input reads as it did. -/
def natSumsUptoRow : OpenClaim := { program := "ytfnhpojoaaegmaa", sum := "1595c8a2b5eaa4a0fb60afb8f98bdc7a8882b935b937e3dc6ecc0eacc4fdb646", func := "dendron/dendronlaw01.NatSums", spec := "natSums", apart := false, narrowed := true }
def NatSumsUptoSaid : Prop := natSumsUptoRow.holds Try.pinned (OpenSpec.upto natSumsSpec)

/-- 'dendronlaw01.NatForms', WHERE WHAT IT READS IS OF BULK AT MOST 1048576: true; the input reads as it did. -/
def natFormsUptoRow : OpenClaim := { program := "ytfnhpojoaaegmaa", sum := "1595c8a2b5eaa4a0fb60afb8f98bdc7a8882b935b937e3dc6ecc0eacc4fdb646", func := "dendron/dendronlaw01.NatForms", spec := "natForms", apart := false, narrowed := true }
def NatFormsUptoSaid : Prop := natFormsUptoRow.holds Try.pinned (OpenSpec.upto natFormsSpec)

/-- 'dendronlaw01.NatBits', WHERE WHAT IT READS IS OF BULK AT MOST 1048576: true; the input reads as it did. -/
def natBitsUptoRow : OpenClaim := { program := "ytfnhpojoaaegmaa", sum := "1595c8a2b5eaa4a0fb60afb8f98bdc7a8882b935b937e3dc6ecc0eacc4fdb646", func := "dendron/dendronlaw01.NatBits", spec := "natBits", apart := false, narrowed := true }
def NatBitsUptoSaid : Prop := natBitsUptoRow.holds Try.pinned (OpenSpec.upto natBitsSpec)

/-- 'dendronlaw01.NatRoots', WHERE WHAT IT READS IS OF BULK AT MOST 1048576: true; the input reads as it did. -/
def natRootsUptoRow : OpenClaim := { program := "ytfnhpojoaaegmaa", sum := "1595c8a2b5eaa4a0fb60afb8f98bdc7a8882b935b937e3dc6ecc0eacc4fdb646", func := "dendron/dendronlaw01.NatRoots", spec := "natRoots", apart := false, narrowed := true }
def NatRootsUptoSaid : Prop := natRootsUptoRow.holds Try.pinned (OpenSpec.upto natRootsSpec)

/-- 'dendronlaw01.NatPowers', WHERE WHAT IT READS IS OF BULK AT MOST 1048576: true; the input reads as it did. -/
def natPowersUptoRow : OpenClaim := { program := "ytfnhpojoaaegmaa", sum := "1595c8a2b5eaa4a0fb60afb8f98bdc7a8882b935b937e3dc6ecc0eacc4fdb646", func := "dendron/dendronlaw01.NatPowers", spec := "natPowers", apart := false, narrowed := true }
def NatPowersUptoSaid : Prop := natPowersUptoRow.holds Try.pinned (OpenSpec.upto natPowersSpec)

end Rows
end Go.Proofs.Ytfnhpojoaaegmaa
