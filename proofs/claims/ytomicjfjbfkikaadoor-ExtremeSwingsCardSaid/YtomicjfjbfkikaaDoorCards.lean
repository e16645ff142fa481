/-
  DERIVED. GIVEN WITH THE SEED: THE CARDS: each row of YtomicjfjbfkikaaDoorRows.lean that lists a variable, with what it lists TIED to the program's text (the seventh form; the later family's looks); each row that meets fmt, with fmt's text TOLD by the authors' own Lean function (tested against real Go, not proved from fmt's source: count such statements apart). THE CARD IS WHAT COUNTS. Prove the row's statement (the work); the ties are given (YtomicjfjbfkikaaDoorTie.lean); close each card by the builder's one call (the guide's Derived/Test/ToyasCard.lean, 'card_holds'). Laid BY PROGRAM, IN A SANDBOX (cutbox-door.mjs). By AI agents, Wed Nov 11 2026. No macro, syntax, notation, axiom, sorry.
-/
import Derived.Test.YtomicjfjbfkikaaDoorRows
import GoSem.ClaimSeven
namespace Go.Proofs.YtomicjfjbfkikaaDoor
namespace Rows

/-- THE TIED CARD OF 'dendronlaw24.ExtremeRows'. -/
def extremeRowsCard : Claim7 := { stood := { row := extremeRowsRow, standIns := [], harness := (true, "055af2870a081aca155dd7d3832794b74fb70f238d6216e595e54682dc256be2"), looks := false }, kinds := [], alts := [], laidByText := true, laidKinds := [.data], laidTests := true, laidLooks := .later }
def ExtremeRowsCardSaid : Prop := Claim7.holds Tryd.pinned (.plain (OpenSpec.ofChange extremeRowsSpec)) extremeRowsCard

/-- THE TIED CARD OF 'dendronlaw24.ExtremeFixed'. -/
def extremeFixedCard : Claim7 := { stood := { row := extremeFixedRow, standIns := [], harness := (true, "055af2870a081aca155dd7d3832794b74fb70f238d6216e595e54682dc256be2"), looks := false }, kinds := [], alts := [], laidByText := true, laidKinds := [.data], laidTests := true, laidLooks := .later }
def ExtremeFixedCardSaid : Prop := Claim7.holds Tryd.pinned (.plain (OpenSpec.ofChange extremeFixedSpec)) extremeFixedCard

/-- THE TIED CARD OF 'dendronlaw24.ExtremeBounds'. -/
def extremeBoundsCard : Claim7 := { stood := { row := extremeBoundsRow, standIns := [], harness := (true, "055af2870a081aca155dd7d3832794b74fb70f238d6216e595e54682dc256be2"), looks := false }, kinds := [], alts := [], laidByText := true, laidKinds := [.data], laidTests := true, laidLooks := .later }
def ExtremeBoundsCardSaid : Prop := Claim7.holds Tryd.pinned (.plain (OpenSpec.ofChange extremeBoundsSpec)) extremeBoundsCard

/-- THE TIED CARD OF 'dendronlaw24.ExtremeCells'. -/
def extremeCellsCard : Claim7 := { stood := { row := extremeCellsRow, standIns := [], harness := (true, "055af2870a081aca155dd7d3832794b74fb70f238d6216e595e54682dc256be2"), looks := false }, kinds := [], alts := [], laidByText := true, laidKinds := [.data], laidTests := true, laidLooks := .later }
def ExtremeCellsCardSaid : Prop := Claim7.holds Tryd.pinned (.plain (OpenSpec.ofChange extremeCellsSpec)) extremeCellsCard

/-- THE TIED CARD OF 'dendronlaw24.ExtremeSwings'. -/
def extremeSwingsCard : Claim7 := { stood := { row := extremeSwingsRow, standIns := [], harness := (true, "055af2870a081aca155dd7d3832794b74fb70f238d6216e595e54682dc256be2"), looks := false }, kinds := [], alts := [], laidByText := true, laidKinds := [.data], laidTests := true, laidLooks := .later }
def ExtremeSwingsCardSaid : Prop := Claim7.holds Tryd.pinned (.plain (OpenSpec.ofChange extremeSwingsSpec)) extremeSwingsCard

/-- THE TIED CARD OF 'dendronlaw24.ExtremeBetweens'. -/
def extremeBetweensCard : Claim7 := { stood := { row := extremeBetweensRow, standIns := [], harness := (true, "055af2870a081aca155dd7d3832794b74fb70f238d6216e595e54682dc256be2"), looks := false }, kinds := [], alts := [], laidByText := true, laidKinds := [.data], laidTests := true, laidLooks := .later }
def ExtremeBetweensCardSaid : Prop := Claim7.holds Tryd.pinned (.plain (OpenSpec.ofChange extremeBetweensSpec)) extremeBetweensCard

/-- THE SECOND FORM's CARD OF 'dendronlaw24.ExtremeRows'. -/
def extremeRowsUptoCard : Claim7 := { stood := { row := extremeRowsUptoRow, standIns := [], harness := (true, "055af2870a081aca155dd7d3832794b74fb70f238d6216e595e54682dc256be2"), looks := false }, kinds := [], alts := [], laidByText := true, laidKinds := [.data], laidTests := true, laidLooks := .later }
def ExtremeRowsUptoCardSaid : Prop := Claim7.holds Tryd.pinned (.plain (OpenSpec.upto extremeRowsSpec)) extremeRowsUptoCard

/-- THE SECOND FORM's CARD OF 'dendronlaw24.ExtremeFixed'. -/
def extremeFixedUptoCard : Claim7 := { stood := { row := extremeFixedUptoRow, standIns := [], harness := (true, "055af2870a081aca155dd7d3832794b74fb70f238d6216e595e54682dc256be2"), looks := false }, kinds := [], alts := [], laidByText := true, laidKinds := [.data], laidTests := true, laidLooks := .later }
def ExtremeFixedUptoCardSaid : Prop := Claim7.holds Tryd.pinned (.plain (OpenSpec.upto extremeFixedSpec)) extremeFixedUptoCard

/-- THE SECOND FORM's CARD OF 'dendronlaw24.ExtremeBounds'. -/
def extremeBoundsUptoCard : Claim7 := { stood := { row := extremeBoundsUptoRow, standIns := [], harness := (true, "055af2870a081aca155dd7d3832794b74fb70f238d6216e595e54682dc256be2"), looks := false }, kinds := [], alts := [], laidByText := true, laidKinds := [.data], laidTests := true, laidLooks := .later }
def ExtremeBoundsUptoCardSaid : Prop := Claim7.holds Tryd.pinned (.plain (OpenSpec.upto extremeBoundsSpec)) extremeBoundsUptoCard

/-- THE SECOND FORM's CARD OF 'dendronlaw24.ExtremeCells'. -/
def extremeCellsUptoCard : Claim7 := { stood := { row := extremeCellsUptoRow, standIns := [], harness := (true, "055af2870a081aca155dd7d3832794b74fb70f238d6216e595e54682dc256be2"), looks := false }, kinds := [], alts := [], laidByText := true, laidKinds := [.data], laidTests := true, laidLooks := .later }
def ExtremeCellsUptoCardSaid : Prop := Claim7.holds Tryd.pinned (.plain (OpenSpec.upto extremeCellsSpec)) extremeCellsUptoCard

/-- THE SECOND FORM's CARD OF 'dendronlaw24.ExtremeSwings'. -/
def extremeSwingsUptoCard : Claim7 := { stood := { row := extremeSwingsUptoRow, standIns := [], harness := (true, "055af2870a081aca155dd7d3832794b74fb70f238d6216e595e54682dc256be2"), looks := false }, kinds := [], alts := [], laidByText := true, laidKinds := [.data], laidTests := true, laidLooks := .later }
def ExtremeSwingsUptoCardSaid : Prop := Claim7.holds Tryd.pinned (.plain (OpenSpec.upto extremeSwingsSpec)) extremeSwingsUptoCard

/-- THE SECOND FORM's CARD OF 'dendronlaw24.ExtremeBetweens'. -/
def extremeBetweensUptoCard : Claim7 := { stood := { row := extremeBetweensUptoRow, standIns := [], harness := (true, "055af2870a081aca155dd7d3832794b74fb70f238d6216e595e54682dc256be2"), looks := false }, kinds := [], alts := [], laidByText := true, laidKinds := [.data], laidTests := true, laidLooks := .later }
def ExtremeBetweensUptoCardSaid : Prop := Claim7.holds Tryd.pinned (.plain (OpenSpec.upto extremeBetweensSpec)) extremeBetweensUptoCard
end Rows
end Go.Proofs.YtomicjfjbfkikaaDoor
