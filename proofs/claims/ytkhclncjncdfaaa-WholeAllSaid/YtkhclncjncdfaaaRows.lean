/-
  No cell of these rows narrows 'for every input' (looked for: loops, veiled, ifaces, maps, wideKeys, modest, calm, conditions, laid).
  DERIVED. THE GIVEN ROWS OF THIS SEAT. 9 by the template 'for every input the law returns true; each argument reads behind the call as it read before'; 0 by the template 'total and deterministic' (their statements: YtkhclncjncdfaaaTotals.lean).
  GIVEN WITH THE SEED: the statements are not yours to turn. If you find one false, say at which input.
  Laid BY PROGRAM, IN A SANDBOX (cutbox-rows.mjs): the forced cells as the released guide's own fill.sh prints them over the translation 7d08737c8fbb9a23… (all of the seat's roots in one cut). By AI agents, Wed Nov 11 2026. No macro, syntax, notation, axiom, sorry.
-/
import Derived.Test.YtkhclncjncdfaaaChecked
import GoSem.Claim
import GoSem.ClaimJoined
import GoSem.ClaimMapViews
import Derived.JoinedTies
import Derived.KernelRfl
namespace Go.Proofs.Ytkhclncjncdfaaa
/- THE CELL 'sum', in the pinned program and in every row, IS THE sha256 OF THE DUMP (.gsa) THAT YtkhclncjncdfaaaProg.lean LOADS. Nothing in Lean hashes anything: it is a label: what it is worth is what the hold of that sum in a sandbox is worth. -/
noncomputable def Try.pinned : Pinned := { name := "ytkhclncjncdfaaa", sum := "7d08737c8fbb9a2317ca1107ad5aea335ba2ee4b9810cc0b25e12edbe6b70417", checked := Try.checked }
namespace Rows
def none {H : Type} : Left H := { results := [], args := [] }

/-- 'dendronlaw02.WholeQuotients': WHATEVER THE INPUT: true; the input reads as it did. -/
def wholeQuotientsSpec : ChangeSpec := { name := "wholeQuotients", fn := fun _ => fun
  | [d1, d2] => { results := [.lit (.bool true)], args := [d1, d2] }
  | _ => none }
def wholeQuotientsRow : OpenClaim := { program := "ytkhclncjncdfaaa", sum := "7d08737c8fbb9a2317ca1107ad5aea335ba2ee4b9810cc0b25e12edbe6b70417", func := "dendron/dendronlaw02.WholeQuotients", spec := "wholeQuotients", apart := false }
def WholeQuotientsSaid : Prop := wholeQuotientsRow.holds Try.pinned (OpenSpec.ofChange wholeQuotientsSpec)

/-- ITS FALSE NEIGHBOUR: 'it returns false'. Refute it at one input. -/
def wholeQuotientsWrong : ChangeSpec := { name := "wholeQuotients", fn := fun _ => fun
  | [d1, d2] => { results := [.lit (.bool false)], args := [d1, d2] }
  | _ => none }
def WholeQuotientsWrongFalsely : Prop := wholeQuotientsRow.holds Try.pinned (OpenSpec.ofChange wholeQuotientsWrong)

/-- 'dendronlaw02.WholeAll': WHATEVER THE INPUT: true; the input reads as it did. -/
def wholeAllSpec : ChangeSpec := { name := "wholeAll", fn := fun _ => fun
  | [d] => { results := [.lit (.bool true)], args := [d] }
  | _ => none }
def wholeAllRow : OpenClaim := { program := "ytkhclncjncdfaaa", sum := "7d08737c8fbb9a2317ca1107ad5aea335ba2ee4b9810cc0b25e12edbe6b70417", func := "dendron/dendronlaw02.WholeAll", spec := "wholeAll", apart := false }
def WholeAllSaid : Prop := wholeAllRow.holds Try.pinned (OpenSpec.ofChange wholeAllSpec)

/-- ITS FALSE NEIGHBOUR: 'it returns false'. Refute it at one input. -/
def wholeAllWrong : ChangeSpec := { name := "wholeAll", fn := fun _ => fun
  | [d] => { results := [.lit (.bool false)], args := [d] }
  | _ => none }
def WholeAllWrongFalsely : Prop := wholeAllRow.holds Try.pinned (OpenSpec.ofChange wholeAllWrong)

/-- 'dendronlaw02.WholeSmalls': WHATEVER THE INPUT: true; the input reads as it did. -/
def wholeSmallsSpec : ChangeSpec := { name := "wholeSmalls", fn := fun _ => fun
  | [d1, d2] => { results := [.lit (.bool true)], args := [d1, d2] }
  | _ => none }
def wholeSmallsRow : OpenClaim := { program := "ytkhclncjncdfaaa", sum := "7d08737c8fbb9a2317ca1107ad5aea335ba2ee4b9810cc0b25e12edbe6b70417", func := "dendron/dendronlaw02.WholeSmalls", spec := "wholeSmalls", apart := false }
def WholeSmallsSaid : Prop := wholeSmallsRow.holds Try.pinned (OpenSpec.ofChange wholeSmallsSpec)

/-- ITS FALSE NEIGHBOUR: 'it returns false'. Refute it at one input. -/
def wholeSmallsWrong : ChangeSpec := { name := "wholeSmalls", fn := fun _ => fun
  | [d1, d2] => { results := [.lit (.bool false)], args := [d1, d2] }
  | _ => none }
def WholeSmallsWrongFalsely : Prop := wholeSmallsRow.holds Try.pinned (OpenSpec.ofChange wholeSmallsWrong)

/-- 'dendronlaw02.WholeForms': WHATEVER THE INPUT: true; the input reads as it did. -/
def wholeFormsSpec : ChangeSpec := { name := "wholeForms", fn := fun _ => fun
  | [d] => { results := [.lit (.bool true)], args := [d] }
  | _ => none }
def wholeFormsRow : OpenClaim := { program := "ytkhclncjncdfaaa", sum := "7d08737c8fbb9a2317ca1107ad5aea335ba2ee4b9810cc0b25e12edbe6b70417", func := "dendron/dendronlaw02.WholeForms", spec := "wholeForms", apart := false }
def WholeFormsSaid : Prop := wholeFormsRow.holds Try.pinned (OpenSpec.ofChange wholeFormsSpec)

/-- ITS FALSE NEIGHBOUR: 'it returns false'. Refute it at one input. -/
def wholeFormsWrong : ChangeSpec := { name := "wholeForms", fn := fun _ => fun
  | [d] => { results := [.lit (.bool false)], args := [d] }
  | _ => none }
def WholeFormsWrongFalsely : Prop := wholeFormsRow.holds Try.pinned (OpenSpec.ofChange wholeFormsWrong)

/-- 'dendronlaw02.WholePowers': WHATEVER THE INPUT: true; the input reads as it did. -/
def wholePowersSpec : ChangeSpec := { name := "wholePowers", fn := fun _ => fun
  | [d1, d2] => { results := [.lit (.bool true)], args := [d1, d2] }
  | _ => none }
def wholePowersRow : OpenClaim := { program := "ytkhclncjncdfaaa", sum := "7d08737c8fbb9a2317ca1107ad5aea335ba2ee4b9810cc0b25e12edbe6b70417", func := "dendron/dendronlaw02.WholePowers", spec := "wholePowers", apart := false }
def WholePowersSaid : Prop := wholePowersRow.holds Try.pinned (OpenSpec.ofChange wholePowersSpec)

/-- ITS FALSE NEIGHBOUR: 'it returns false'. Refute it at one input. -/
def wholePowersWrong : ChangeSpec := { name := "wholePowers", fn := fun _ => fun
  | [d1, d2] => { results := [.lit (.bool false)], args := [d1, d2] }
  | _ => none }
def WholePowersWrongFalsely : Prop := wholePowersRow.holds Try.pinned (OpenSpec.ofChange wholePowersWrong)

/-- 'dendronlaw02.WholeCounts': WHATEVER THE INPUT: true; the input reads as it did. -/
def wholeCountsSpec : ChangeSpec := { name := "wholeCounts", fn := fun _ => fun
  | [d1, d2] => { results := [.lit (.bool true)], args := [d1, d2] }
  | _ => none }
def wholeCountsRow : OpenClaim := { program := "ytkhclncjncdfaaa", sum := "7d08737c8fbb9a2317ca1107ad5aea335ba2ee4b9810cc0b25e12edbe6b70417", func := "dendron/dendronlaw02.WholeCounts", spec := "wholeCounts", apart := false }
def WholeCountsSaid : Prop := wholeCountsRow.holds Try.pinned (OpenSpec.ofChange wholeCountsSpec)

/-- ITS FALSE NEIGHBOUR: 'it returns false'. Refute it at one input. -/
def wholeCountsWrong : ChangeSpec := { name := "wholeCounts", fn := fun _ => fun
  | [d1, d2] => { results := [.lit (.bool false)], args := [d1, d2] }
  | _ => none }
def WholeCountsWrongFalsely : Prop := wholeCountsRow.holds Try.pinned (OpenSpec.ofChange wholeCountsWrong)

/-- 'dendronlaw02.WholeSums': WHATEVER THE INPUT: true; the input reads as it did. -/
def wholeSumsSpec : ChangeSpec := { name := "wholeSums", fn := fun _ => fun
  | [d1, d2] => { results := [.lit (.bool true)], args := [d1, d2] }
  | _ => none }
def wholeSumsRow : OpenClaim := { program := "ytkhclncjncdfaaa", sum := "7d08737c8fbb9a2317ca1107ad5aea335ba2ee4b9810cc0b25e12edbe6b70417", func := "dendron/dendronlaw02.WholeSums", spec := "wholeSums", apart := false }
def WholeSumsSaid : Prop := wholeSumsRow.holds Try.pinned (OpenSpec.ofChange wholeSumsSpec)

/-- ITS FALSE NEIGHBOUR: 'it returns false'. Refute it at one input. -/
def wholeSumsWrong : ChangeSpec := { name := "wholeSums", fn := fun _ => fun
  | [d1, d2] => { results := [.lit (.bool false)], args := [d1, d2] }
  | _ => none }
def WholeSumsWrongFalsely : Prop := wholeSumsRow.holds Try.pinned (OpenSpec.ofChange wholeSumsWrong)

/-- 'dendronlaw02.WholeTexts': WHATEVER THE INPUT: true; the input reads as it did. -/
def wholeTextsSpec : ChangeSpec := { name := "wholeTexts", fn := fun _ => fun
  | [d] => { results := [.lit (.bool true)], args := [d] }
  | _ => none }
def wholeTextsRow : OpenClaim := { program := "ytkhclncjncdfaaa", sum := "7d08737c8fbb9a2317ca1107ad5aea335ba2ee4b9810cc0b25e12edbe6b70417", func := "dendron/dendronlaw02.WholeTexts", spec := "wholeTexts", apart := false }
def WholeTextsSaid : Prop := wholeTextsRow.holds Try.pinned (OpenSpec.ofChange wholeTextsSpec)

/-- ITS FALSE NEIGHBOUR: 'it returns false'. Refute it at one input. -/
def wholeTextsWrong : ChangeSpec := { name := "wholeTexts", fn := fun _ => fun
  | [d] => { results := [.lit (.bool false)], args := [d] }
  | _ => none }
def WholeTextsWrongFalsely : Prop := wholeTextsRow.holds Try.pinned (OpenSpec.ofChange wholeTextsWrong)

/-- 'dendronlaw02.WholeReads': WHATEVER THE INPUT: true; the input reads as it did. -/
def wholeReadsSpec : ChangeSpec := { name := "wholeReads", fn := fun _ => fun
  | [d] => { results := [.lit (.bool true)], args := [d] }
  | _ => none }
def wholeReadsRow : OpenClaim := { program := "ytkhclncjncdfaaa", sum := "7d08737c8fbb9a2317ca1107ad5aea335ba2ee4b9810cc0b25e12edbe6b70417", func := "dendron/dendronlaw02.WholeReads", spec := "wholeReads", apart := false }
def WholeReadsSaid : Prop := wholeReadsRow.holds Try.pinned (OpenSpec.ofChange wholeReadsSpec)

/-- ITS FALSE NEIGHBOUR: 'it returns false'. Refute it at one input. -/
def wholeReadsWrong : ChangeSpec := { name := "wholeReads", fn := fun _ => fun
  | [d] => { results := [.lit (.bool false)], args := [d] }
  | _ => none }
def WholeReadsWrongFalsely : Prop := wholeReadsRow.holds Try.pinned (OpenSpec.ofChange wholeReadsWrong)

/- THE SECOND FORM. 'bulk': how many values and letters a reading holds, each counted each time it is reached (what is shared counts as often as it is met; a slice's spare places count too). A statement '..UptoSaid' is the law's where the arguments, and the package variables that the reading takes, are together of bulk at most 1048576: NARROWER than '..Said'. Prove '..Said' where nothing that the law and all that it calls make is longer than what came in: it says more and counts as full. Else prove '..UptoSaid'. A law counts once. -/
mutual
def uptoBulk {H : Type} : DataW H → Nat
  | .lit (.string bytes) => bytes.length + 1
  | .lit _ => 1
  | .nil => 1
  | .ptr d => uptoBulk d + 1
  | .slice elems spare => uptoBulkAll elems + uptoBulkAll spare + 1
  | .agg parts => uptoBulkAll parts + 1
  | .iface _ d => uptoBulk d + 1
  | .map entries => uptoBulkEntries entries + 1
  | .held _ => 1
def uptoBulkAll {H : Type} : List (DataW H) → Nat
  | [] => 0
  | d :: r => uptoBulk d + uptoBulkAll r
def uptoBulkEntries {H : Type} : List (Lit × DataW H) → Nat
  | [] => 0
  | x :: r => uptoBulkEntry x + uptoBulkEntries r
def uptoBulkEntry {H : Type} : Lit × DataW H → Nat
  | (.string bytes, d) => bytes.length + uptoBulk d + 1
  | (_, d) => uptoBulk d + 1
 end
def uptoSmall : (H : Type) → List (DataW H) → Bool := fun _ ds => decide (uptoBulkAll ds ≤ 1048576)
def OpenSpec.upto (s : _root_.Go.ChangeSpec) : _root_.Go.OpenSpec := { _root_.Go.OpenSpec.ofChange s with cond := some uptoSmall }

/-- 'dendronlaw02.WholeQuotients', WHERE WHAT IT READS IS OF BULK AT MOST 1048576: true; the input reads as it did. -/
def wholeQuotientsUptoRow : OpenClaim := { program := "ytkhclncjncdfaaa", sum := "7d08737c8fbb9a2317ca1107ad5aea335ba2ee4b9810cc0b25e12edbe6b70417", func := "dendron/dendronlaw02.WholeQuotients", spec := "wholeQuotients", apart := false, narrowed := true }
def WholeQuotientsUptoSaid : Prop := wholeQuotientsUptoRow.holds Try.pinned (OpenSpec.upto wholeQuotientsSpec)

/-- 'dendronlaw02.WholeAll', WHERE WHAT IT READS IS OF BULK AT MOST 1048576: true; the input reads as it did. -/
def wholeAllUptoRow : OpenClaim := { program := "ytkhclncjncdfaaa", sum := "7d08737c8fbb9a2317ca1107ad5aea335ba2ee4b9810cc0b25e12edbe6b70417", func := "dendron/dendronlaw02.WholeAll", spec := "wholeAll", apart := false, narrowed := true }
def WholeAllUptoSaid : Prop := wholeAllUptoRow.holds Try.pinned (OpenSpec.upto wholeAllSpec)

/-- 'dendronlaw02.WholeSmalls', WHERE WHAT IT READS IS OF BULK AT MOST 1048576: true; the input reads as it did. -/
def wholeSmallsUptoRow : OpenClaim := { program := "ytkhclncjncdfaaa", sum := "7d08737c8fbb9a2317ca1107ad5aea335ba2ee4b9810cc0b25e12edbe6b70417", func := "dendron/dendronlaw02.WholeSmalls", spec := "wholeSmalls", apart := false, narrowed := true }
def WholeSmallsUptoSaid : Prop := wholeSmallsUptoRow.holds Try.pinned (OpenSpec.upto wholeSmallsSpec)

/-- 'dendronlaw02.WholeForms', WHERE WHAT IT READS IS OF BULK AT MOST 1048576: true; the input reads as it did. -/
def wholeFormsUptoRow : OpenClaim := { program := "ytkhclncjncdfaaa", sum := "7d08737c8fbb9a2317ca1107ad5aea335ba2ee4b9810cc0b25e12edbe6b70417", func := "dendron/dendronlaw02.WholeForms", spec := "wholeForms", apart := false, narrowed := true }
def WholeFormsUptoSaid : Prop := wholeFormsUptoRow.holds Try.pinned (OpenSpec.upto wholeFormsSpec)

/-- 'dendronlaw02.WholePowers', WHERE WHAT IT READS IS OF BULK AT MOST 1048576: true; the input reads as it did. -/
def wholePowersUptoRow : OpenClaim := { program := "ytkhclncjncdfaaa", sum := "7d08737c8fbb9a2317ca1107ad5aea335ba2ee4b9810cc0b25e12edbe6b70417", func := "dendron/dendronlaw02.WholePowers", spec := "wholePowers", apart := false, narrowed := true }
def WholePowersUptoSaid : Prop := wholePowersUptoRow.holds Try.pinned (OpenSpec.upto wholePowersSpec)

/-- 'dendronlaw02.WholeCounts', WHERE WHAT IT READS IS OF BULK AT MOST 1048576: true; the input reads as it did. -/
def wholeCountsUptoRow : OpenClaim := { program := "ytkhclncjncdfaaa", sum := "7d08737c8fbb9a2317ca1107ad5aea335ba2ee4b9810cc0b25e12edbe6b70417", func := "dendron/dendronlaw02.WholeCounts", spec := "wholeCounts", apart := false, narrowed := true }
def WholeCountsUptoSaid : Prop := wholeCountsUptoRow.holds Try.pinned (OpenSpec.upto wholeCountsSpec)

/-- 'dendronlaw02.WholeSums', WHERE WHAT IT READS IS OF BULK AT MOST 1048576: true; the input reads as it did. -/
def wholeSumsUptoRow : OpenClaim := { program := "ytkhclncjncdfaaa", sum := "7d08737c8fbb9a2317ca1107ad5aea335ba2ee4b9810cc0b25e12edbe6b70417", func := "dendron/dendronlaw02.WholeSums", spec := "wholeSums", apart := false, narrowed := true }
def WholeSumsUptoSaid : Prop := wholeSumsUptoRow.holds Try.pinned (OpenSpec.upto wholeSumsSpec)

/-- 'dendronlaw02.WholeTexts', WHERE WHAT IT READS IS OF BULK AT MOST 1048576: true; the input reads as it did. -/
def wholeTextsUptoRow : OpenClaim := { program := "ytkhclncjncdfaaa", sum := "7d08737c8fbb9a2317ca1107ad5aea335ba2ee4b9810cc0b25e12edbe6b70417", func := "dendron/dendronlaw02.WholeTexts", spec := "wholeTexts", apart := false, narrowed := true }
def WholeTextsUptoSaid : Prop := wholeTextsUptoRow.holds Try.pinned (OpenSpec.upto wholeTextsSpec)

/-- 'dendronlaw02.WholeReads', WHERE WHAT IT READS IS OF BULK AT MOST 1048576: true; the input reads as it did. -/
def wholeReadsUptoRow : OpenClaim := { program := "ytkhclncjncdfaaa", sum := "7d08737c8fbb9a2317ca1107ad5aea335ba2ee4b9810cc0b25e12edbe6b70417", func := "dendron/dendronlaw02.WholeReads", spec := "wholeReads", apart := false, narrowed := true }
def WholeReadsUptoSaid : Prop := wholeReadsUptoRow.holds Try.pinned (OpenSpec.upto wholeReadsSpec)

end Rows
end Go.Proofs.Ytkhclncjncdfaaa
