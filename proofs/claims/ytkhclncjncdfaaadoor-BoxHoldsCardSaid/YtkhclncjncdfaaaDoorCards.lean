/-
  DERIVED. GIVEN WITH THE SEED: THE CARDS: each row of YtkhclncjncdfaaaDoorRows.lean that lists a variable, with what it lists TIED to the program's text (the seventh form; the later family's looks); each row that meets fmt, with fmt's text TOLD by the authors' own Lean function (tested against real Go, not proved from fmt's source: count such statements apart). THE CARD IS WHAT COUNTS. Prove the row's statement (the work); the ties are given (YtkhclncjncdfaaaDoorTie.lean); close each card by the builder's one call (the guide's Derived/Test/ToyasCard.lean, 'card_holds'). Laid BY PROGRAM, IN A SANDBOX (cutbox-door.mjs). By AI agents, Wed Nov 11 2026. No macro, syntax, notation, axiom, sorry.
-/
import Derived.Test.YtkhclncjncdfaaaDoorRows
import GoSem.ClaimSeven
namespace Go.Proofs.YtkhclncjncdfaaaDoor
namespace Rows

/-- THE TIED CARD OF 'dendronlaw23.BoxFroms'. -/
def boxFromsCard : Claim7 := { stood := { row := boxFromsRow, standIns := [], harness := (true, "ca7753c333c95ae8f012252ec964ad60405cee1a2b465a3c103ac7d30ba861a9"), looks := false }, kinds := [], alts := [], laidByText := true, laidKinds := [.data], laidTests := true, laidLooks := .later }
def BoxFromsCardSaid : Prop := Claim7.holds Tryd.pinned (.plain (OpenSpec.ofChange boxFromsSpec)) boxFromsCard

/-- THE TIED CARD OF 'dendronlaw23.BoxCuts'. -/
def boxCutsCard : Claim7 := { stood := { row := boxCutsRow, standIns := [], harness := (true, "ca7753c333c95ae8f012252ec964ad60405cee1a2b465a3c103ac7d30ba861a9"), looks := false }, kinds := [], alts := [], laidByText := true, laidKinds := [.data], laidTests := true, laidLooks := .later }
def BoxCutsCardSaid : Prop := Claim7.holds Tryd.pinned (.plain (OpenSpec.ofChange boxCutsSpec)) boxCutsCard

/-- THE TIED CARD OF 'dendronlaw23.BoxHas'. -/
def boxHasCard : Claim7 := { stood := { row := boxHasRow, standIns := [], harness := (true, "ca7753c333c95ae8f012252ec964ad60405cee1a2b465a3c103ac7d30ba861a9"), looks := false }, kinds := [], alts := [], laidByText := true, laidKinds := [.data], laidTests := true, laidLooks := .later }
def BoxHasCardSaid : Prop := Claim7.holds Tryd.pinned (.plain (OpenSpec.ofChange boxHasSpec)) boxHasCard

/-- THE TIED CARD OF 'dendronlaw23.BoxMeets'. -/
def boxMeetsCard : Claim7 := { stood := { row := boxMeetsRow, standIns := [], harness := (true, "ca7753c333c95ae8f012252ec964ad60405cee1a2b465a3c103ac7d30ba861a9"), looks := false }, kinds := [], alts := [], laidByText := true, laidKinds := [.data], laidTests := true, laidLooks := .later }
def BoxMeetsCardSaid : Prop := Claim7.holds Tryd.pinned (.plain (OpenSpec.ofChange boxMeetsSpec)) boxMeetsCard

/-- THE TIED CARD OF 'dendronlaw23.BoxPoints'. -/
def boxPointsCard : Claim7 := { stood := { row := boxPointsRow, standIns := [], harness := (true, "ca7753c333c95ae8f012252ec964ad60405cee1a2b465a3c103ac7d30ba861a9"), looks := false }, kinds := [], alts := [], laidByText := true, laidKinds := [.data], laidTests := true, laidLooks := .later }
def BoxPointsCardSaid : Prop := Claim7.holds Tryd.pinned (.plain (OpenSpec.ofChange boxPointsSpec)) boxPointsCard

/-- THE TIED CARD OF 'dendronlaw23.BoxBoths'. -/
def boxBothsCard : Claim7 := { stood := { row := boxBothsRow, standIns := [], harness := (true, "ca7753c333c95ae8f012252ec964ad60405cee1a2b465a3c103ac7d30ba861a9"), looks := false }, kinds := [], alts := [], laidByText := true, laidKinds := [.data], laidTests := true, laidLooks := .later }
def BoxBothsCardSaid : Prop := Claim7.holds Tryd.pinned (.plain (OpenSpec.ofChange boxBothsSpec)) boxBothsCard

/-- THE TIED CARD OF 'dendronlaw02.WholeGcds'. -/
def wholeGcdsCard : Claim7 := { stood := { row := wholeGcdsRow, standIns := [], harness := (true, "ca7753c333c95ae8f012252ec964ad60405cee1a2b465a3c103ac7d30ba861a9"), looks := false }, kinds := [], alts := [], laidByText := true, laidKinds := [.data], laidTests := true, laidLooks := .later }
def WholeGcdsCardSaid : Prop := Claim7.holds Tryd.pinned (.plain (OpenSpec.ofChange wholeGcdsSpec)) wholeGcdsCard

/-- THE TIED CARD OF 'dendronlaw23.BoxWithins'. -/
def boxWithinsCard : Claim7 := { stood := { row := boxWithinsRow, standIns := [], harness := (true, "ca7753c333c95ae8f012252ec964ad60405cee1a2b465a3c103ac7d30ba861a9"), looks := false }, kinds := [], alts := [], laidByText := true, laidKinds := [.data], laidTests := true, laidLooks := .later }
def BoxWithinsCardSaid : Prop := Claim7.holds Tryd.pinned (.plain (OpenSpec.ofChange boxWithinsSpec)) boxWithinsCard

/-- THE TIED CARD OF 'dendronlaw23.BoxHolds'. -/
def boxHoldsCard : Claim7 := { stood := { row := boxHoldsRow, standIns := [], harness := (true, "ca7753c333c95ae8f012252ec964ad60405cee1a2b465a3c103ac7d30ba861a9"), looks := false }, kinds := [], alts := [], laidByText := true, laidKinds := [.data], laidTests := true, laidLooks := .later }
def BoxHoldsCardSaid : Prop := Claim7.holds Tryd.pinned (.plain (OpenSpec.ofChange boxHoldsSpec)) boxHoldsCard

/-- THE TIED CARD OF 'dendronlaw23.BoxSomes'. -/
def boxSomesCard : Claim7 := { stood := { row := boxSomesRow, standIns := [], harness := (true, "ca7753c333c95ae8f012252ec964ad60405cee1a2b465a3c103ac7d30ba861a9"), looks := false }, kinds := [], alts := [], laidByText := true, laidKinds := [.data], laidTests := true, laidLooks := .later }
def BoxSomesCardSaid : Prop := Claim7.holds Tryd.pinned (.plain (OpenSpec.ofChange boxSomesSpec)) boxSomesCard

/-- THE TIED CARD OF 'dendronlaw30.LimitChecks'. -/
def limitChecksCard : Claim7 := { stood := { row := limitChecksRow, standIns := [], harness := (true, "ca7753c333c95ae8f012252ec964ad60405cee1a2b465a3c103ac7d30ba861a9"), looks := false }, kinds := [], alts := [], laidByText := true, laidKinds := [.data], laidTests := true, laidLooks := .later }
def LimitChecksCardSaid : Prop := Claim7.holds Tryd.pinned (.plain (OpenSpec.ofChange limitChecksSpec)) limitChecksCard

/-- THE SECOND FORM's CARD OF 'dendronlaw23.BoxFroms'. -/
def boxFromsUptoCard : Claim7 := { stood := { row := boxFromsUptoRow, standIns := [], harness := (true, "ca7753c333c95ae8f012252ec964ad60405cee1a2b465a3c103ac7d30ba861a9"), looks := false }, kinds := [], alts := [], laidByText := true, laidKinds := [.data], laidTests := true, laidLooks := .later }
def BoxFromsUptoCardSaid : Prop := Claim7.holds Tryd.pinned (.plain (OpenSpec.upto boxFromsSpec)) boxFromsUptoCard

/-- THE SECOND FORM's CARD OF 'dendronlaw23.BoxCuts'. -/
def boxCutsUptoCard : Claim7 := { stood := { row := boxCutsUptoRow, standIns := [], harness := (true, "ca7753c333c95ae8f012252ec964ad60405cee1a2b465a3c103ac7d30ba861a9"), looks := false }, kinds := [], alts := [], laidByText := true, laidKinds := [.data], laidTests := true, laidLooks := .later }
def BoxCutsUptoCardSaid : Prop := Claim7.holds Tryd.pinned (.plain (OpenSpec.upto boxCutsSpec)) boxCutsUptoCard

/-- THE SECOND FORM's CARD OF 'dendronlaw23.BoxHas'. -/
def boxHasUptoCard : Claim7 := { stood := { row := boxHasUptoRow, standIns := [], harness := (true, "ca7753c333c95ae8f012252ec964ad60405cee1a2b465a3c103ac7d30ba861a9"), looks := false }, kinds := [], alts := [], laidByText := true, laidKinds := [.data], laidTests := true, laidLooks := .later }
def BoxHasUptoCardSaid : Prop := Claim7.holds Tryd.pinned (.plain (OpenSpec.upto boxHasSpec)) boxHasUptoCard

/-- THE SECOND FORM's CARD OF 'dendronlaw23.BoxMeets'. -/
def boxMeetsUptoCard : Claim7 := { stood := { row := boxMeetsUptoRow, standIns := [], harness := (true, "ca7753c333c95ae8f012252ec964ad60405cee1a2b465a3c103ac7d30ba861a9"), looks := false }, kinds := [], alts := [], laidByText := true, laidKinds := [.data], laidTests := true, laidLooks := .later }
def BoxMeetsUptoCardSaid : Prop := Claim7.holds Tryd.pinned (.plain (OpenSpec.upto boxMeetsSpec)) boxMeetsUptoCard

/-- THE SECOND FORM's CARD OF 'dendronlaw23.BoxPoints'. -/
def boxPointsUptoCard : Claim7 := { stood := { row := boxPointsUptoRow, standIns := [], harness := (true, "ca7753c333c95ae8f012252ec964ad60405cee1a2b465a3c103ac7d30ba861a9"), looks := false }, kinds := [], alts := [], laidByText := true, laidKinds := [.data], laidTests := true, laidLooks := .later }
def BoxPointsUptoCardSaid : Prop := Claim7.holds Tryd.pinned (.plain (OpenSpec.upto boxPointsSpec)) boxPointsUptoCard

/-- THE SECOND FORM's CARD OF 'dendronlaw23.BoxBoths'. -/
def boxBothsUptoCard : Claim7 := { stood := { row := boxBothsUptoRow, standIns := [], harness := (true, "ca7753c333c95ae8f012252ec964ad60405cee1a2b465a3c103ac7d30ba861a9"), looks := false }, kinds := [], alts := [], laidByText := true, laidKinds := [.data], laidTests := true, laidLooks := .later }
def BoxBothsUptoCardSaid : Prop := Claim7.holds Tryd.pinned (.plain (OpenSpec.upto boxBothsSpec)) boxBothsUptoCard

/-- THE SECOND FORM's CARD OF 'dendronlaw02.WholeGcds'. -/
def wholeGcdsUptoCard : Claim7 := { stood := { row := wholeGcdsUptoRow, standIns := [], harness := (true, "ca7753c333c95ae8f012252ec964ad60405cee1a2b465a3c103ac7d30ba861a9"), looks := false }, kinds := [], alts := [], laidByText := true, laidKinds := [.data], laidTests := true, laidLooks := .later }
def WholeGcdsUptoCardSaid : Prop := Claim7.holds Tryd.pinned (.plain (OpenSpec.upto wholeGcdsSpec)) wholeGcdsUptoCard

/-- THE SECOND FORM's CARD OF 'dendronlaw23.BoxWithins'. -/
def boxWithinsUptoCard : Claim7 := { stood := { row := boxWithinsUptoRow, standIns := [], harness := (true, "ca7753c333c95ae8f012252ec964ad60405cee1a2b465a3c103ac7d30ba861a9"), looks := false }, kinds := [], alts := [], laidByText := true, laidKinds := [.data], laidTests := true, laidLooks := .later }
def BoxWithinsUptoCardSaid : Prop := Claim7.holds Tryd.pinned (.plain (OpenSpec.upto boxWithinsSpec)) boxWithinsUptoCard

/-- THE SECOND FORM's CARD OF 'dendronlaw23.BoxHolds'. -/
def boxHoldsUptoCard : Claim7 := { stood := { row := boxHoldsUptoRow, standIns := [], harness := (true, "ca7753c333c95ae8f012252ec964ad60405cee1a2b465a3c103ac7d30ba861a9"), looks := false }, kinds := [], alts := [], laidByText := true, laidKinds := [.data], laidTests := true, laidLooks := .later }
def BoxHoldsUptoCardSaid : Prop := Claim7.holds Tryd.pinned (.plain (OpenSpec.upto boxHoldsSpec)) boxHoldsUptoCard

/-- THE SECOND FORM's CARD OF 'dendronlaw23.BoxSomes'. -/
def boxSomesUptoCard : Claim7 := { stood := { row := boxSomesUptoRow, standIns := [], harness := (true, "ca7753c333c95ae8f012252ec964ad60405cee1a2b465a3c103ac7d30ba861a9"), looks := false }, kinds := [], alts := [], laidByText := true, laidKinds := [.data], laidTests := true, laidLooks := .later }
def BoxSomesUptoCardSaid : Prop := Claim7.holds Tryd.pinned (.plain (OpenSpec.upto boxSomesSpec)) boxSomesUptoCard

/-- THE SECOND FORM's CARD OF 'dendronlaw30.LimitChecks'. -/
def limitChecksUptoCard : Claim7 := { stood := { row := limitChecksUptoRow, standIns := [], harness := (true, "ca7753c333c95ae8f012252ec964ad60405cee1a2b465a3c103ac7d30ba861a9"), looks := false }, kinds := [], alts := [], laidByText := true, laidKinds := [.data], laidTests := true, laidLooks := .later }
def LimitChecksUptoCardSaid : Prop := Claim7.holds Tryd.pinned (.plain (OpenSpec.upto limitChecksSpec)) limitChecksUptoCard
end Rows
end Go.Proofs.YtkhclncjncdfaaaDoor
