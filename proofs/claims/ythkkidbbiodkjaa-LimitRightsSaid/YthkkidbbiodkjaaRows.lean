/-
  No cell of these rows narrows 'for every input' (looked for: loops, veiled, ifaces, maps, wideKeys, modest, calm, conditions, laid).
  DERIVED. THE GIVEN ROWS OF THIS SEAT. 4 by the template 'for every input the law returns true; each argument reads behind the call as it read before'; 0 by the template 'total and deterministic' (their statements: YthkkidbbiodkjaaTotals.lean).
  GIVEN WITH THE SEED: the statements are not yours to turn. If you find one false, say at which input.
  Laid BY PROGRAM, IN A SANDBOX (cutbox-rows.mjs): the forced cells as the released guide's own fill.sh prints them over the translation 49dd2df1a089e626… (all of the seat's roots in one cut). By AI agents, Wed Nov 11 2026. No macro, syntax, notation, axiom, sorry.
-/
import Derived.Test.YthkkidbbiodkjaaChecked
import GoSem.Claim
import GoSem.ClaimJoined
import GoSem.ClaimMapViews
import Derived.JoinedTies
import Derived.KernelRfl
namespace Go.Proofs.Ythkkidbbiodkjaa
/- THE CELL 'sum', in the pinned program and in every row, IS THE sha256 OF THE DUMP (.gsa) THAT YthkkidbbiodkjaaProg.lean LOADS. Nothing in Lean hashes anything: it is a label: what it is worth is what the hold of that sum in a sandbox is worth. -/
noncomputable def Try.pinned : Pinned := { name := "ythkkidbbiodkjaa", sum := "49dd2df1a089e626415296be2faf3255ea0166ebfed91d4235d10d836087f668", checked := Try.checked }
namespace Rows
def none {H : Type} : Left H := { results := [], args := [] }

/-- 'dendronlaw30.LimitApart': WHATEVER THE INPUT: true; the input reads as it did. -/
def limitApartSpec : ChangeSpec := { name := "limitApart", fn := fun _ => fun
  | [d1, d2] => { results := [.lit (.bool true)], args := [d1, d2] }
  | _ => none }
def limitApartRow : OpenClaim := { program := "ythkkidbbiodkjaa", sum := "49dd2df1a089e626415296be2faf3255ea0166ebfed91d4235d10d836087f668", func := "dendron/dendronlaw30.LimitApart", spec := "limitApart", inPlace := ["sync/atomic.AddInt64", "sync/atomic.StoreInt64", "sync/atomic.LoadInt64"], apart := false }
def LimitApartSaid : Prop := limitApartRow.holds Try.pinned (OpenSpec.ofChange limitApartSpec)

/-- ITS FALSE NEIGHBOUR: 'it returns false'. Refute it at one input. -/
def limitApartWrong : ChangeSpec := { name := "limitApart", fn := fun _ => fun
  | [d1, d2] => { results := [.lit (.bool false)], args := [d1, d2] }
  | _ => none }
def LimitApartWrongFalsely : Prop := limitApartRow.holds Try.pinned (OpenSpec.ofChange limitApartWrong)

/-- 'dendronlaw30.LimitRights': WHATEVER THE INPUT: true; the input reads as it did. -/
def limitRightsSpec : ChangeSpec := { name := "limitRights", fn := fun _ => fun
  | [d] => { results := [.lit (.bool true)], args := [d] }
  | _ => none }
def limitRightsRow : OpenClaim := { program := "ythkkidbbiodkjaa", sum := "49dd2df1a089e626415296be2faf3255ea0166ebfed91d4235d10d836087f668", func := "dendron/dendronlaw30.LimitRights", spec := "limitRights", inPlace := ["sync/atomic.StoreInt64", "sync/atomic.AddInt64", "sync/atomic.LoadInt64"], apart := false }
def LimitRightsSaid : Prop := limitRightsRow.holds Try.pinned (OpenSpec.ofChange limitRightsSpec)

/-- ITS FALSE NEIGHBOUR: 'it returns false'. Refute it at one input. -/
def limitRightsWrong : ChangeSpec := { name := "limitRights", fn := fun _ => fun
  | [d] => { results := [.lit (.bool false)], args := [d] }
  | _ => none }
def LimitRightsWrongFalsely : Prop := limitRightsRow.holds Try.pinned (OpenSpec.ofChange limitRightsWrong)

/-- 'dendronlaw30.LimitNobody': WHATEVER THE INPUT: true; the input reads as it did. -/
def limitNobodySpec : ChangeSpec := { name := "limitNobody", fn := fun _ => fun
  | [d] => { results := [.lit (.bool true)], args := [d] }
  | _ => none }
def limitNobodyRow : OpenClaim := { program := "ythkkidbbiodkjaa", sum := "49dd2df1a089e626415296be2faf3255ea0166ebfed91d4235d10d836087f668", func := "dendron/dendronlaw30.LimitNobody", spec := "limitNobody", inPlace := ["sync/atomic.AddInt64", "sync/atomic.LoadInt64", "sync/atomic.StoreInt64"], apart := false }
def LimitNobodySaid : Prop := limitNobodyRow.holds Try.pinned (OpenSpec.ofChange limitNobodySpec)

/-- ITS FALSE NEIGHBOUR: 'it returns false'. Refute it at one input. -/
def limitNobodyWrong : ChangeSpec := { name := "limitNobody", fn := fun _ => fun
  | [d] => { results := [.lit (.bool false)], args := [d] }
  | _ => none }
def LimitNobodyWrongFalsely : Prop := limitNobodyRow.holds Try.pinned (OpenSpec.ofChange limitNobodyWrong)

/-- 'dendronlaw30.LimitMeters': WHATEVER THE INPUT: true; the input reads as it did. -/
def limitMetersSpec : ChangeSpec := { name := "limitMeters", fn := fun _ => fun
  | [d1, d2] => { results := [.lit (.bool true)], args := [d1, d2] }
  | _ => none }
def limitMetersRow : OpenClaim := { program := "ythkkidbbiodkjaa", sum := "49dd2df1a089e626415296be2faf3255ea0166ebfed91d4235d10d836087f668", func := "dendron/dendronlaw30.LimitMeters", spec := "limitMeters", inPlace := ["sync/atomic.StoreInt64", "sync/atomic.AddInt64", "sync/atomic.LoadInt64"], apart := false }
def LimitMetersSaid : Prop := limitMetersRow.holds Try.pinned (OpenSpec.ofChange limitMetersSpec)

/-- ITS FALSE NEIGHBOUR: 'it returns false'. Refute it at one input. -/
def limitMetersWrong : ChangeSpec := { name := "limitMeters", fn := fun _ => fun
  | [d1, d2] => { results := [.lit (.bool false)], args := [d1, d2] }
  | _ => none }
def LimitMetersWrongFalsely : Prop := limitMetersRow.holds Try.pinned (OpenSpec.ofChange limitMetersWrong)

/- THE SECOND FORM. 'bulk': how many values and letters a reading holds, each counted each time it is reached (what is shared counts as often as it is met; a slice's spare places count too). A statement '..UptoSaid' is the law's where the arguments, and the package variables that the reading takes, are together of bulk at most 1048576: NARROWER than '..Said'. Prove '..Said' where nothing that the law and all that it calls make is longer than what came in: it says more and counts as full. Else prove '..UptoSaid'. A law counts once. -/
mutual
def uptoBulk {H : Type} : DataW H → Nat
  | .lit (.string bytes) => bytes.length + 1
  | .lit _ => 1
  | .nil => 1
  | .ptr d => uptoBulk d + 1
  | .slice elems spare => uptoBulkAll elems + uptoBulkAll spare + 1
  | .agg parts => uptoBulkAll parts + 1
  | .iface _ d => uptoBulk d + 1
  | .map entries => uptoBulkEntries entries + 1
  | .held _ => 1
def uptoBulkAll {H : Type} : List (DataW H) → Nat
  | [] => 0
  | d :: r => uptoBulk d + uptoBulkAll r
def uptoBulkEntries {H : Type} : List (Lit × DataW H) → Nat
  | [] => 0
  | x :: r => uptoBulkEntry x + uptoBulkEntries r
def uptoBulkEntry {H : Type} : Lit × DataW H → Nat
  | (.string bytes, d) => bytes.length + uptoBulk d + 1
  | (_, d) => uptoBulk d + 1
 end
def uptoSmall : (H : Type) → List (DataW H) → Bool := fun _ ds => decide (uptoBulkAll ds ≤ 1048576)
def OpenSpec.upto (s : _root_.Go.ChangeSpec) : _root_.Go.OpenSpec := { _root_.Go.OpenSpec.ofChange s with cond := some uptoSmall }

/-- 'dendronlaw30.LimitApart', WHERE WHAT IT READS IS OF BULK AT MOST 1048576: true; the input reads as it did. -/
def limitApartUptoRow : OpenClaim := { program := "ythkkidbbiodkjaa", sum := "49dd2df1a089e626415296be2faf3255ea0166ebfed91d4235d10d836087f668", func := "dendron/dendronlaw30.LimitApart", spec := "limitApart", inPlace := ["sync/atomic.AddInt64", "sync/atomic.StoreInt64", "sync/atomic.LoadInt64"], apart := false, narrowed := true }
def LimitApartUptoSaid : Prop := limitApartUptoRow.holds Try.pinned (OpenSpec.upto limitApartSpec)

/-- 'dendronlaw30.LimitRights', WHERE WHAT IT READS IS OF BULK AT MOST 1048576: true; the input reads as it did. -/
def limitRightsUptoRow : OpenClaim := { program := "ythkkidbbiodkjaa", sum := "49dd2df1a089e626415296be2faf3255ea0166ebfed91d4235d10d836087f668", func := "dendron/dendronlaw30.LimitRights", spec := "limitRights", inPlace := ["sync/atomic.StoreInt64", "sync/atomic.AddInt64", "sync/atomic.LoadInt64"], apart := false, narrowed := true }
def LimitRightsUptoSaid : Prop := limitRightsUptoRow.holds Try.pinned (OpenSpec.upto limitRightsSpec)

/-- 'dendronlaw30.LimitNobody', WHERE WHAT IT READS IS OF BULK AT MOST 1048576: true; the input reads as it did. -/
def limitNobodyUptoRow : OpenClaim := { program := "ythkkidbbiodkjaa", sum := "49dd2df1a089e626415296be2faf3255ea0166ebfed91d4235d10d836087f668", func := "dendron/dendronlaw30.LimitNobody", spec := "limitNobody", inPlace := ["sync/atomic.AddInt64", "sync/atomic.LoadInt64", "sync/atomic.StoreInt64"], apart := false, narrowed := true }
def LimitNobodyUptoSaid : Prop := limitNobodyUptoRow.holds Try.pinned (OpenSpec.upto limitNobodySpec)

/-- 'dendronlaw30.LimitMeters', WHERE WHAT IT READS IS OF BULK AT MOST 1048576: true; the input reads as it did. -/
def limitMetersUptoRow : OpenClaim := { program := "ythkkidbbiodkjaa", sum := "49dd2df1a089e626415296be2faf3255ea0166ebfed91d4235d10d836087f668", func := "dendron/dendronlaw30.LimitMeters", spec := "limitMeters", inPlace := ["sync/atomic.StoreInt64", "sync/atomic.AddInt64", "sync/atomic.LoadInt64"], apart := false, narrowed := true }
def LimitMetersUptoSaid : Prop := limitMetersUptoRow.holds Try.pinned (OpenSpec.upto limitMetersSpec)

end Rows
end Go.Proofs.Ythkkidbbiodkjaa
