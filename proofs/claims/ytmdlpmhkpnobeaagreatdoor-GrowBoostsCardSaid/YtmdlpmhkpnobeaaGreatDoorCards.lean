/-
  DERIVED. GIVEN WITH THE SEED: THE CARDS: each row of YtmdlpmhkpnobeaaGreatDoorRows.lean that lists a variable, with what it lists TIED to the program's text (the seventh form; the later family's looks); each row that meets fmt, with fmt's text TOLD by the authors' own Lean function (tested against real Go, not proved from fmt's source: count such statements apart). THE CARD IS WHAT COUNTS. Prove the row's statement (the work); the ties are given (YtmdlpmhkpnobeaaGreatDoorTie.lean); close each card by the builder's one call (the guide's Derived/Test/ToyasCard.lean, 'card_holds'). Laid BY PROGRAM, IN A SANDBOX (cutbox-door.mjs). By AI agents, Wed Nov 11 2026. No macro, syntax, notation, axiom, sorry.
-/
import Derived.Test.YtmdlpmhkpnobeaaGreatDoorRows
import GoSem.ClaimSeven
namespace Go.Proofs.YtmdlpmhkpnobeaaGreatDoor
namespace Rows

/-- THE TIED CARD OF 'dendronlaw26.GrowBests'. -/
def growBestsCard : Claim7 := { stood := { row := growBestsRow, standIns := [], harness := (true, "17efdc352ec3d0b200996e0ee9810004bcdd160069ab220330ace2cdfbaefea9"), looks := false }, kinds := [], alts := [], laidByText := true, laidKinds := [.data], laidTests := true, laidLooks := .later }
def GrowBestsCardSaid : Prop := Claim7.holds Tryz.pinned (.plain (OpenSpec.ofChange growBestsSpec)) growBestsCard

/-- THE TIED CARD OF 'dendronlaw26.GrowTrees'. -/
def growTreesCard : Claim7 := { stood := { row := growTreesRow, standIns := [], harness := (true, "17efdc352ec3d0b200996e0ee9810004bcdd160069ab220330ace2cdfbaefea9"), looks := false }, kinds := [], alts := [], laidByText := true, laidKinds := [.data], laidTests := true, laidLooks := .later }
def GrowTreesCardSaid : Prop := Claim7.holds Tryz.pinned (.plain (OpenSpec.ofChange growTreesSpec)) growTreesCard

/-- THE TIED CARD OF 'dendronlaw26.GrowBoosts'. -/
def growBoostsCard : Claim7 := { stood := { row := growBoostsRow, standIns := [], harness := (true, "17efdc352ec3d0b200996e0ee9810004bcdd160069ab220330ace2cdfbaefea9"), looks := false }, kinds := [], alts := [], laidByText := true, laidKinds := [.data], laidTests := true, laidLooks := .later }
def GrowBoostsCardSaid : Prop := Claim7.holds Tryz.pinned (.plain (OpenSpec.ofChange growBoostsSpec)) growBoostsCard

/-- THE TIED CARD OF 'dendronlaw26.GrowLefts'. -/
def growLeftsCard : Claim7 := { stood := { row := growLeftsRow, standIns := [], harness := (true, "17efdc352ec3d0b200996e0ee9810004bcdd160069ab220330ace2cdfbaefea9"), looks := false }, kinds := [], alts := [], laidByText := true, laidKinds := [.data], laidTests := true, laidLooks := .later }
def GrowLeftsCardSaid : Prop := Claim7.holds Tryz.pinned (.plain (OpenSpec.ofChange growLeftsSpec)) growLeftsCard

/-- THE SECOND FORM's CARD OF 'dendronlaw26.GrowBests'. -/
def growBestsUptoCard : Claim7 := { stood := { row := growBestsUptoRow, standIns := [], harness := (true, "17efdc352ec3d0b200996e0ee9810004bcdd160069ab220330ace2cdfbaefea9"), looks := false }, kinds := [], alts := [], laidByText := true, laidKinds := [.data], laidTests := true, laidLooks := .later }
def GrowBestsUptoCardSaid : Prop := Claim7.holds Tryz.pinned (.plain (OpenSpec.upto growBestsSpec)) growBestsUptoCard

/-- THE SECOND FORM's CARD OF 'dendronlaw26.GrowTrees'. -/
def growTreesUptoCard : Claim7 := { stood := { row := growTreesUptoRow, standIns := [], harness := (true, "17efdc352ec3d0b200996e0ee9810004bcdd160069ab220330ace2cdfbaefea9"), looks := false }, kinds := [], alts := [], laidByText := true, laidKinds := [.data], laidTests := true, laidLooks := .later }
def GrowTreesUptoCardSaid : Prop := Claim7.holds Tryz.pinned (.plain (OpenSpec.upto growTreesSpec)) growTreesUptoCard

/-- THE SECOND FORM's CARD OF 'dendronlaw26.GrowBoosts'. -/
def growBoostsUptoCard : Claim7 := { stood := { row := growBoostsUptoRow, standIns := [], harness := (true, "17efdc352ec3d0b200996e0ee9810004bcdd160069ab220330ace2cdfbaefea9"), looks := false }, kinds := [], alts := [], laidByText := true, laidKinds := [.data], laidTests := true, laidLooks := .later }
def GrowBoostsUptoCardSaid : Prop := Claim7.holds Tryz.pinned (.plain (OpenSpec.upto growBoostsSpec)) growBoostsUptoCard

/-- THE SECOND FORM's CARD OF 'dendronlaw26.GrowLefts'. -/
def growLeftsUptoCard : Claim7 := { stood := { row := growLeftsUptoRow, standIns := [], harness := (true, "17efdc352ec3d0b200996e0ee9810004bcdd160069ab220330ace2cdfbaefea9"), looks := false }, kinds := [], alts := [], laidByText := true, laidKinds := [.data], laidTests := true, laidLooks := .later }
def GrowLeftsUptoCardSaid : Prop := Claim7.holds Tryz.pinned (.plain (OpenSpec.upto growLeftsSpec)) growLeftsUptoCard
end Rows
end Go.Proofs.YtmdlpmhkpnobeaaGreatDoor
