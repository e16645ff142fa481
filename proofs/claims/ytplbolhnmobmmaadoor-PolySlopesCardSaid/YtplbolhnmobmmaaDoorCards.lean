/-
  DERIVED. GIVEN WITH THE SEED: THE CARDS: each row of YtplbolhnmobmmaaDoorRows.lean that lists a variable, with what it lists TIED to the program's text (the seventh form; the later family's looks); each row that meets fmt, with fmt's text TOLD by the authors' own Lean function (tested against real Go, not proved from fmt's source: count such statements apart). THE CARD IS WHAT COUNTS. Prove the row's statement (the work); the ties are given (YtplbolhnmobmmaaDoorTie.lean); close each card by the builder's one call (the guide's Derived/Test/ToyasCard.lean, 'card_holds'). Laid BY PROGRAM, IN A SANDBOX (cutbox-door.mjs). By AI agents, Wed Nov 11 2026. No macro, syntax, notation, axiom, sorry.
-/
import Derived.Test.YtplbolhnmobmmaaDoorRows
import GoSem.ClaimSeven
namespace Go.Proofs.YtplbolhnmobmmaaDoor
namespace Rows

/-- THE TIED CARD OF 'dendronlaw04.PolyLeast'. -/
def polyLeastCard : Claim7 := { stood := { row := polyLeastRow, standIns := [], harness := (true, "5e22ec54b72007097433a400816a35ea2463bcf3c45d9f92d802cdb5219fcaa3"), looks := false }, kinds := [], alts := [], laidByText := true, laidKinds := [.data], laidTests := true, laidLooks := .later }
def PolyLeastCardSaid : Prop := Claim7.holds Tryd.pinned (.plain (OpenSpec.ofChange polyLeastSpec)) polyLeastCard

/-- THE TIED CARD OF 'dendronlaw04.PolyGcds'. -/
def polyGcdsCard : Claim7 := { stood := { row := polyGcdsRow, standIns := [], harness := (true, "5e22ec54b72007097433a400816a35ea2463bcf3c45d9f92d802cdb5219fcaa3"), looks := false }, kinds := [], alts := [], laidByText := true, laidKinds := [.data], laidTests := true, laidLooks := .later }
def PolyGcdsCardSaid : Prop := Claim7.holds Tryd.pinned (.plain (OpenSpec.ofChange polyGcdsSpec)) polyGcdsCard

/-- THE TIED CARD OF 'dendronlaw04.PolyProducts'. -/
def polyProductsCard : Claim7 := { stood := { row := polyProductsRow, standIns := [], harness := (true, "5e22ec54b72007097433a400816a35ea2463bcf3c45d9f92d802cdb5219fcaa3"), looks := false }, kinds := [], alts := [], laidByText := true, laidKinds := [.data], laidTests := true, laidLooks := .later }
def PolyProductsCardSaid : Prop := Claim7.holds Tryd.pinned (.plain (OpenSpec.ofChange polyProductsSpec)) polyProductsCard

/-- THE TIED CARD OF 'dendronlaw04.PolySlopes'. -/
def polySlopesCard : Claim7 := { stood := { row := polySlopesRow, standIns := [], harness := (true, "5e22ec54b72007097433a400816a35ea2463bcf3c45d9f92d802cdb5219fcaa3"), looks := false }, kinds := [], alts := [], laidByText := true, laidKinds := [.data], laidTests := true, laidLooks := .later }
def PolySlopesCardSaid : Prop := Claim7.holds Tryd.pinned (.plain (OpenSpec.ofChange polySlopesSpec)) polySlopesCard

/-- THE TIED CARD OF 'dendronlaw04.PolySums'. -/
def polySumsCard : Claim7 := { stood := { row := polySumsRow, standIns := [], harness := (true, "5e22ec54b72007097433a400816a35ea2463bcf3c45d9f92d802cdb5219fcaa3"), looks := false }, kinds := [], alts := [], laidByText := true, laidKinds := [.data], laidTests := true, laidLooks := .later }
def PolySumsCardSaid : Prop := Claim7.holds Tryd.pinned (.plain (OpenSpec.ofChange polySumsSpec)) polySumsCard

/-- THE TIED CARD OF 'dendronlaw04.PolyDivides'. -/
def polyDividesCard : Claim7 := { stood := { row := polyDividesRow, standIns := [], harness := (true, "5e22ec54b72007097433a400816a35ea2463bcf3c45d9f92d802cdb5219fcaa3"), looks := false }, kinds := [], alts := [], laidByText := true, laidKinds := [.data], laidTests := true, laidLooks := .later }
def PolyDividesCardSaid : Prop := Claim7.holds Tryd.pinned (.plain (OpenSpec.ofChange polyDividesSpec)) polyDividesCard

/-- THE TIED CARD OF 'dendronlaw04.PolyChains'. -/
def polyChainsCard : Claim7 := { stood := { row := polyChainsRow, standIns := [], harness := (true, "5e22ec54b72007097433a400816a35ea2463bcf3c45d9f92d802cdb5219fcaa3"), looks := false }, kinds := [], alts := [], laidByText := true, laidKinds := [.data], laidTests := true, laidLooks := .later }
def PolyChainsCardSaid : Prop := Claim7.holds Tryd.pinned (.plain (OpenSpec.ofChange polyChainsSpec)) polyChainsCard

/-- THE TIED CARD OF 'dendronlaw04.PolyValues'. -/
def polyValuesCard : Claim7 := { stood := { row := polyValuesRow, standIns := [], harness := (true, "5e22ec54b72007097433a400816a35ea2463bcf3c45d9f92d802cdb5219fcaa3"), looks := false }, kinds := [], alts := [], laidByText := true, laidKinds := [.data], laidTests := true, laidLooks := .later }
def PolyValuesCardSaid : Prop := Claim7.holds Tryd.pinned (.plain (OpenSpec.ofChange polyValuesSpec)) polyValuesCard

/-- THE TIED CARD OF 'dendronlaw04.PolyThrough'. -/
def polyThroughCard : Claim7 := { stood := { row := polyThroughRow, standIns := [], harness := (true, "5e22ec54b72007097433a400816a35ea2463bcf3c45d9f92d802cdb5219fcaa3"), looks := false }, kinds := [], alts := [], laidByText := true, laidKinds := [.data], laidTests := true, laidLooks := .later }
def PolyThroughCardSaid : Prop := Claim7.holds Tryd.pinned (.plain (OpenSpec.ofChange polyThroughSpec)) polyThroughCard

/-- THE SECOND FORM's CARD OF 'dendronlaw04.PolyLeast'. -/
def polyLeastUptoCard : Claim7 := { stood := { row := polyLeastUptoRow, standIns := [], harness := (true, "5e22ec54b72007097433a400816a35ea2463bcf3c45d9f92d802cdb5219fcaa3"), looks := false }, kinds := [], alts := [], laidByText := true, laidKinds := [.data], laidTests := true, laidLooks := .later }
def PolyLeastUptoCardSaid : Prop := Claim7.holds Tryd.pinned (.plain (OpenSpec.upto polyLeastSpec)) polyLeastUptoCard

/-- THE SECOND FORM's CARD OF 'dendronlaw04.PolyGcds'. -/
def polyGcdsUptoCard : Claim7 := { stood := { row := polyGcdsUptoRow, standIns := [], harness := (true, "5e22ec54b72007097433a400816a35ea2463bcf3c45d9f92d802cdb5219fcaa3"), looks := false }, kinds := [], alts := [], laidByText := true, laidKinds := [.data], laidTests := true, laidLooks := .later }
def PolyGcdsUptoCardSaid : Prop := Claim7.holds Tryd.pinned (.plain (OpenSpec.upto polyGcdsSpec)) polyGcdsUptoCard

/-- THE SECOND FORM's CARD OF 'dendronlaw04.PolyProducts'. -/
def polyProductsUptoCard : Claim7 := { stood := { row := polyProductsUptoRow, standIns := [], harness := (true, "5e22ec54b72007097433a400816a35ea2463bcf3c45d9f92d802cdb5219fcaa3"), looks := false }, kinds := [], alts := [], laidByText := true, laidKinds := [.data], laidTests := true, laidLooks := .later }
def PolyProductsUptoCardSaid : Prop := Claim7.holds Tryd.pinned (.plain (OpenSpec.upto polyProductsSpec)) polyProductsUptoCard

/-- THE SECOND FORM's CARD OF 'dendronlaw04.PolySlopes'. -/
def polySlopesUptoCard : Claim7 := { stood := { row := polySlopesUptoRow, standIns := [], harness := (true, "5e22ec54b72007097433a400816a35ea2463bcf3c45d9f92d802cdb5219fcaa3"), looks := false }, kinds := [], alts := [], laidByText := true, laidKinds := [.data], laidTests := true, laidLooks := .later }
def PolySlopesUptoCardSaid : Prop := Claim7.holds Tryd.pinned (.plain (OpenSpec.upto polySlopesSpec)) polySlopesUptoCard

/-- THE SECOND FORM's CARD OF 'dendronlaw04.PolySums'. -/
def polySumsUptoCard : Claim7 := { stood := { row := polySumsUptoRow, standIns := [], harness := (true, "5e22ec54b72007097433a400816a35ea2463bcf3c45d9f92d802cdb5219fcaa3"), looks := false }, kinds := [], alts := [], laidByText := true, laidKinds := [.data], laidTests := true, laidLooks := .later }
def PolySumsUptoCardSaid : Prop := Claim7.holds Tryd.pinned (.plain (OpenSpec.upto polySumsSpec)) polySumsUptoCard

/-- THE SECOND FORM's CARD OF 'dendronlaw04.PolyDivides'. -/
def polyDividesUptoCard : Claim7 := { stood := { row := polyDividesUptoRow, standIns := [], harness := (true, "5e22ec54b72007097433a400816a35ea2463bcf3c45d9f92d802cdb5219fcaa3"), looks := false }, kinds := [], alts := [], laidByText := true, laidKinds := [.data], laidTests := true, laidLooks := .later }
def PolyDividesUptoCardSaid : Prop := Claim7.holds Tryd.pinned (.plain (OpenSpec.upto polyDividesSpec)) polyDividesUptoCard

/-- THE SECOND FORM's CARD OF 'dendronlaw04.PolyChains'. -/
def polyChainsUptoCard : Claim7 := { stood := { row := polyChainsUptoRow, standIns := [], harness := (true, "5e22ec54b72007097433a400816a35ea2463bcf3c45d9f92d802cdb5219fcaa3"), looks := false }, kinds := [], alts := [], laidByText := true, laidKinds := [.data], laidTests := true, laidLooks := .later }
def PolyChainsUptoCardSaid : Prop := Claim7.holds Tryd.pinned (.plain (OpenSpec.upto polyChainsSpec)) polyChainsUptoCard

/-- THE SECOND FORM's CARD OF 'dendronlaw04.PolyValues'. -/
def polyValuesUptoCard : Claim7 := { stood := { row := polyValuesUptoRow, standIns := [], harness := (true, "5e22ec54b72007097433a400816a35ea2463bcf3c45d9f92d802cdb5219fcaa3"), looks := false }, kinds := [], alts := [], laidByText := true, laidKinds := [.data], laidTests := true, laidLooks := .later }
def PolyValuesUptoCardSaid : Prop := Claim7.holds Tryd.pinned (.plain (OpenSpec.upto polyValuesSpec)) polyValuesUptoCard

/-- THE SECOND FORM's CARD OF 'dendronlaw04.PolyThrough'. -/
def polyThroughUptoCard : Claim7 := { stood := { row := polyThroughUptoRow, standIns := [], harness := (true, "5e22ec54b72007097433a400816a35ea2463bcf3c45d9f92d802cdb5219fcaa3"), looks := false }, kinds := [], alts := [], laidByText := true, laidKinds := [.data], laidTests := true, laidLooks := .later }
def PolyThroughUptoCardSaid : Prop := Claim7.holds Tryd.pinned (.plain (OpenSpec.upto polyThroughSpec)) polyThroughUptoCard
end Rows
end Go.Proofs.YtplbolhnmobmmaaDoor
