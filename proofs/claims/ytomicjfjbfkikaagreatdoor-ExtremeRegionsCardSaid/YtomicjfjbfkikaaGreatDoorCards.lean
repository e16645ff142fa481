/-
  DERIVED. GIVEN WITH THE SEED: THE CARDS: each row of YtomicjfjbfkikaaGreatDoorRows.lean that lists a variable, with what it lists TIED to the program's text (the seventh form; the later family's looks); each row that meets fmt, with fmt's text TOLD by the authors' own Lean function (tested against real Go, not proved from fmt's source: count such statements apart). THE CARD IS WHAT COUNTS. Prove the row's statement (the work); the ties are given (YtomicjfjbfkikaaGreatDoorTie.lean); close each card by the builder's one call (the guide's Derived/Test/ToyasCard.lean, 'card_holds'). Laid BY PROGRAM, IN A SANDBOX (cutbox-door.mjs). By AI agents, Wed Nov 11 2026. No macro, syntax, notation, axiom, sorry.
-/
import Derived.Test.YtomicjfjbfkikaaGreatDoorRows
import GoSem.ClaimSeven
namespace Go.Proofs.YtomicjfjbfkikaaGreatDoor
namespace Rows

/-- THE TIED CARD OF 'dendronlaw24.ExtremeRegions'. -/
def extremeRegionsCard : Claim7 := { stood := { row := extremeRegionsRow, standIns := [], harness := (true, "1f5c833cdfdff4f3e0a3cbb50ea9bcb318c7d806a1bba81f5e623bbbaff005ea"), looks := false }, kinds := [], alts := [], laidByText := true, laidKinds := [.data], laidTests := true, laidLooks := .later }
def ExtremeRegionsCardSaid : Prop := Claim7.holds Tryz.pinned (.plain (OpenSpec.ofChange extremeRegionsSpec)) extremeRegionsCard

/-- THE SECOND FORM's CARD OF 'dendronlaw24.ExtremeRegions'. -/
def extremeRegionsUptoCard : Claim7 := { stood := { row := extremeRegionsUptoRow, standIns := [], harness := (true, "1f5c833cdfdff4f3e0a3cbb50ea9bcb318c7d806a1bba81f5e623bbbaff005ea"), looks := false }, kinds := [], alts := [], laidByText := true, laidKinds := [.data], laidTests := true, laidLooks := .later }
def ExtremeRegionsUptoCardSaid : Prop := Claim7.holds Tryz.pinned (.plain (OpenSpec.upto extremeRegionsSpec)) extremeRegionsUptoCard
end Rows
end Go.Proofs.YtomicjfjbfkikaaGreatDoor
