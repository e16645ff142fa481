/-
  DERIVED. GIVEN WITH THE SEED: THE CARDS: each row of YtmdlpmhkpnobeaaDoorRows.lean that lists a variable, with what it lists TIED to the program's text (the seventh form; the later family's looks); each row that meets fmt, with fmt's text TOLD by the authors' own Lean function (tested against real Go, not proved from fmt's source: count such statements apart). THE CARD IS WHAT COUNTS. Prove the row's statement (the work); the ties are given (YtmdlpmhkpnobeaaDoorTie.lean); close each card by the builder's one call (the guide's Derived/Test/ToyasCard.lean, 'card_holds'). Laid BY PROGRAM, IN A SANDBOX (cutbox-door.mjs). By AI agents, Wed Nov 11 2026. No macro, syntax, notation, axiom, sorry.
-/
import Derived.Test.YtmdlpmhkpnobeaaDoorRows
import GoSem.ClaimSeven
namespace Go.Proofs.YtmdlpmhkpnobeaaDoor
namespace Rows

/-- THE TIED CARD OF 'dendronlaw26.GrowRights'. -/
def growRightsCard : Claim7 := { stood := { row := growRightsRow, standIns := [], harness := (true, "29609df87e41c80542653e6faa708e5941954dcd0b246c33437d1c03eae6bab7"), looks := false }, kinds := [], alts := [], laidByText := true, laidKinds := [.data], laidTests := true, laidLooks := .later }
def GrowRightsCardSaid : Prop := Claim7.holds Tryd.pinned (.plain (OpenSpec.ofChange growRightsSpec)) growRightsCard

/-- THE TIED CARD OF 'dendronlaw26.GrowLosses'. -/
def growLossesCard : Claim7 := { stood := { row := growLossesRow, standIns := [], harness := (true, "29609df87e41c80542653e6faa708e5941954dcd0b246c33437d1c03eae6bab7"), looks := false }, kinds := [], alts := [], laidByText := true, laidKinds := [.data], laidTests := true, laidLooks := .later }
def GrowLossesCardSaid : Prop := Claim7.holds Tryd.pinned (.plain (OpenSpec.ofChange growLossesSpec)) growLossesCard

/-- THE SECOND FORM's CARD OF 'dendronlaw26.GrowRights'. -/
def growRightsUptoCard : Claim7 := { stood := { row := growRightsUptoRow, standIns := [], harness := (true, "29609df87e41c80542653e6faa708e5941954dcd0b246c33437d1c03eae6bab7"), looks := false }, kinds := [], alts := [], laidByText := true, laidKinds := [.data], laidTests := true, laidLooks := .later }
def GrowRightsUptoCardSaid : Prop := Claim7.holds Tryd.pinned (.plain (OpenSpec.upto growRightsSpec)) growRightsUptoCard

/-- THE SECOND FORM's CARD OF 'dendronlaw26.GrowLosses'. -/
def growLossesUptoCard : Claim7 := { stood := { row := growLossesUptoRow, standIns := [], harness := (true, "29609df87e41c80542653e6faa708e5941954dcd0b246c33437d1c03eae6bab7"), looks := false }, kinds := [], alts := [], laidByText := true, laidKinds := [.data], laidTests := true, laidLooks := .later }
def GrowLossesUptoCardSaid : Prop := Claim7.holds Tryd.pinned (.plain (OpenSpec.upto growLossesSpec)) growLossesUptoCard
end Rows
end Go.Proofs.YtmdlpmhkpnobeaaDoor
