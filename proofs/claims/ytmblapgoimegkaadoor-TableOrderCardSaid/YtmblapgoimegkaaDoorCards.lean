/-
  DERIVED. GIVEN WITH THE SEED: THE CARDS: each row of YtmblapgoimegkaaDoorRows.lean that lists a variable, with what it lists TIED to the program's text (the seventh form; the later family's looks); each row that meets fmt, with fmt's text TOLD by the authors' own Lean function (tested against real Go, not proved from fmt's source: count such statements apart). THE CARD IS WHAT COUNTS. Prove the row's statement (the work); the ties are given (YtmblapgoimegkaaDoorTie.lean); close each card by the builder's one call (the guide's Derived/Test/ToyasCard.lean, 'card_holds'). Laid BY PROGRAM, IN A SANDBOX (cutbox-door.mjs). By AI agents, Wed Nov 11 2026. No macro, syntax, notation, axiom, sorry.
-/
import Derived.Test.YtmblapgoimegkaaDoorRows
import GoSem.ClaimSeven
namespace Go.Proofs.YtmblapgoimegkaaDoor
namespace Rows

/-- THE TIED CARD OF 'tollhouselaw10.NamesTell'. -/
def namesTellCard : Claim7 := { stood := { row := namesTellRow, standIns := [], harness := (true, "fc0d53e4362b60a45468f85e45eddc2d8c4d829177ae9c7f0ad8fed5ff448710"), looks := false }, kinds := [], alts := [], laidByText := true, laidKinds := [.data, .pinned], laidTests := true, laidLooks := .later }
def NamesTellCardSaid : Prop := Claim7.holds Tryd.pinned (.plain (OpenSpec.ofChange namesTellSpec)) namesTellCard

/-- THE TIED CARD OF 'tollhouselaw10.NamesBack'. -/
def namesBackCard : Claim7 := { stood := { row := namesBackRow, standIns := [], harness := (true, "fc0d53e4362b60a45468f85e45eddc2d8c4d829177ae9c7f0ad8fed5ff448710"), looks := false }, kinds := [], alts := [], laidByText := true, laidKinds := [.data, .pinned], laidTests := true, laidLooks := .later }
def NamesBackCardSaid : Prop := Claim7.holds Tryd.pinned (.plain (OpenSpec.ofChange namesBackSpec)) namesBackCard

/-- THE TIED CARD OF 'tollhouselaw10.NamesSigns'. -/
def namesSignsCard : Claim7 := { stood := { row := namesSignsRow, standIns := [], harness := (true, "fc0d53e4362b60a45468f85e45eddc2d8c4d829177ae9c7f0ad8fed5ff448710"), looks := false }, kinds := [], alts := [], laidByText := true, laidKinds := [.data, .pinned], laidTests := true, laidLooks := .later }
def NamesSignsCardSaid : Prop := Claim7.holds Tryd.pinned (.plain (OpenSpec.ofChange namesSignsSpec)) namesSignsCard

/-- THE TIED CARD OF 'tollhouselaw10.NamesPads'. -/
def namesPadsCard : Claim7 := { stood := { row := namesPadsRow, standIns := [], harness := (true, "fc0d53e4362b60a45468f85e45eddc2d8c4d829177ae9c7f0ad8fed5ff448710"), looks := false }, kinds := [], alts := [], laidByText := true, laidKinds := [.data, .pinned], laidTests := true, laidLooks := .later }
def NamesPadsCardSaid : Prop := Claim7.holds Tryd.pinned (.plain (OpenSpec.ofChange namesPadsSpec)) namesPadsCard

/-- THE TIED CARD OF 'tollhouselaw14.TokenCodes'. -/
def tokenCodesCard : Claim7 := { stood := { row := tokenCodesRow, standIns := [], harness := (true, "fc0d53e4362b60a45468f85e45eddc2d8c4d829177ae9c7f0ad8fed5ff448710"), looks := false }, kinds := [], alts := [], laidByText := true, laidKinds := [.data, .pinned], laidTests := true, laidLooks := .later }
def TokenCodesCardSaid : Prop := Claim7.holds Tryd.pinned (.plain (OpenSpec.ofChange tokenCodesSpec)) tokenCodesCard

/-- THE TIED CARD OF 'tollhouselaw14.TokenBack'. -/
def tokenBackCard : Claim7 := { stood := { row := tokenBackRow, standIns := [], harness := (true, "fc0d53e4362b60a45468f85e45eddc2d8c4d829177ae9c7f0ad8fed5ff448710"), looks := false }, kinds := [], alts := [], laidByText := true, laidKinds := [.data, .pinned], laidTests := true, laidLooks := .later }
def TokenBackCardSaid : Prop := Claim7.holds Tryd.pinned (.plain (OpenSpec.ofChange tokenBackSpec)) tokenBackCard

/-- THE TIED CARD OF 'tollhouselaw14.TokenPlaces'. -/
def tokenPlacesCard : Claim7 := { stood := { row := tokenPlacesRow, standIns := [], harness := (true, "fc0d53e4362b60a45468f85e45eddc2d8c4d829177ae9c7f0ad8fed5ff448710"), looks := false }, kinds := [], alts := [], laidByText := true, laidKinds := [.data, .pinned], laidTests := true, laidLooks := .later }
def TokenPlacesCardSaid : Prop := Claim7.holds Tryd.pinned (.plain (OpenSpec.ofChange tokenPlacesSpec)) tokenPlacesCard

/-- THE TIED CARD OF 'tollhouselaw14.TokenTurns'. -/
def tokenTurnsCard : Claim7 := { stood := { row := tokenTurnsRow, standIns := [], harness := (true, "fc0d53e4362b60a45468f85e45eddc2d8c4d829177ae9c7f0ad8fed5ff448710"), looks := false }, kinds := [], alts := [], laidByText := true, laidKinds := [.data, .pinned], laidTests := true, laidLooks := .later }
def TokenTurnsCardSaid : Prop := Claim7.holds Tryd.pinned (.plain (OpenSpec.ofChange tokenTurnsSpec)) tokenTurnsCard

/-- THE TIED CARD OF 'tollhouselaw12.TableTells'. -/
def tableTellsCard : Claim7 := { stood := { row := tableTellsRow, standIns := [], harness := (true, "fc0d53e4362b60a45468f85e45eddc2d8c4d829177ae9c7f0ad8fed5ff448710"), looks := false }, kinds := [], alts := [], laidByText := true, laidKinds := [.data, .pinned], laidTests := true, laidLooks := .later }
def TableTellsCardSaid : Prop := Claim7.holds Tryd.pinned (.plain (OpenSpec.ofChange tableTellsSpec)) tableTellsCard

/-- THE TIED CARD OF 'tollhouselaw12.TableBack'. -/
def tableBackCard : Claim7 := { stood := { row := tableBackRow, standIns := [], harness := (true, "fc0d53e4362b60a45468f85e45eddc2d8c4d829177ae9c7f0ad8fed5ff448710"), looks := false }, kinds := [], alts := [], laidByText := true, laidKinds := [.data, .pinned], laidTests := true, laidLooks := .later }
def TableBackCardSaid : Prop := Claim7.holds Tryd.pinned (.plain (OpenSpec.ofChange tableBackSpec)) tableBackCard

/-- THE TIED CARD OF 'tollhouselaw12.TablePlaces'. -/
def tablePlacesCard : Claim7 := { stood := { row := tablePlacesRow, standIns := [], harness := (true, "fc0d53e4362b60a45468f85e45eddc2d8c4d829177ae9c7f0ad8fed5ff448710"), looks := false }, kinds := [], alts := [], laidByText := true, laidKinds := [.data, .pinned], laidTests := true, laidLooks := .later }
def TablePlacesCardSaid : Prop := Claim7.holds Tryd.pinned (.plain (OpenSpec.ofChange tablePlacesSpec)) tablePlacesCard

/-- THE TIED CARD OF 'tollhouselaw12.TableOrder'. -/
def tableOrderCard : Claim7 := { stood := { row := tableOrderRow, standIns := [], harness := (true, "fc0d53e4362b60a45468f85e45eddc2d8c4d829177ae9c7f0ad8fed5ff448710"), looks := false }, kinds := [], alts := [], laidByText := true, laidKinds := [.data, .pinned], laidTests := true, laidLooks := .later }
def TableOrderCardSaid : Prop := Claim7.holds Tryd.pinned (.plain (OpenSpec.ofChange tableOrderSpec)) tableOrderCard

/-- THE SECOND FORM's CARD OF 'tollhouselaw10.NamesTell'. -/
def namesTellUptoCard : Claim7 := { stood := { row := namesTellUptoRow, standIns := [], harness := (true, "fc0d53e4362b60a45468f85e45eddc2d8c4d829177ae9c7f0ad8fed5ff448710"), looks := false }, kinds := [], alts := [], laidByText := true, laidKinds := [.data, .pinned], laidTests := true, laidLooks := .later }
def NamesTellUptoCardSaid : Prop := Claim7.holds Tryd.pinned (.plain (OpenSpec.upto namesTellSpec)) namesTellUptoCard

/-- THE SECOND FORM's CARD OF 'tollhouselaw10.NamesBack'. -/
def namesBackUptoCard : Claim7 := { stood := { row := namesBackUptoRow, standIns := [], harness := (true, "fc0d53e4362b60a45468f85e45eddc2d8c4d829177ae9c7f0ad8fed5ff448710"), looks := false }, kinds := [], alts := [], laidByText := true, laidKinds := [.data, .pinned], laidTests := true, laidLooks := .later }
def NamesBackUptoCardSaid : Prop := Claim7.holds Tryd.pinned (.plain (OpenSpec.upto namesBackSpec)) namesBackUptoCard

/-- THE SECOND FORM's CARD OF 'tollhouselaw10.NamesSigns'. -/
def namesSignsUptoCard : Claim7 := { stood := { row := namesSignsUptoRow, standIns := [], harness := (true, "fc0d53e4362b60a45468f85e45eddc2d8c4d829177ae9c7f0ad8fed5ff448710"), looks := false }, kinds := [], alts := [], laidByText := true, laidKinds := [.data, .pinned], laidTests := true, laidLooks := .later }
def NamesSignsUptoCardSaid : Prop := Claim7.holds Tryd.pinned (.plain (OpenSpec.upto namesSignsSpec)) namesSignsUptoCard

/-- THE SECOND FORM's CARD OF 'tollhouselaw10.NamesPads'. -/
def namesPadsUptoCard : Claim7 := { stood := { row := namesPadsUptoRow, standIns := [], harness := (true, "fc0d53e4362b60a45468f85e45eddc2d8c4d829177ae9c7f0ad8fed5ff448710"), looks := false }, kinds := [], alts := [], laidByText := true, laidKinds := [.data, .pinned], laidTests := true, laidLooks := .later }
def NamesPadsUptoCardSaid : Prop := Claim7.holds Tryd.pinned (.plain (OpenSpec.upto namesPadsSpec)) namesPadsUptoCard

/-- THE SECOND FORM's CARD OF 'tollhouselaw14.TokenCodes'. -/
def tokenCodesUptoCard : Claim7 := { stood := { row := tokenCodesUptoRow, standIns := [], harness := (true, "fc0d53e4362b60a45468f85e45eddc2d8c4d829177ae9c7f0ad8fed5ff448710"), looks := false }, kinds := [], alts := [], laidByText := true, laidKinds := [.data, .pinned], laidTests := true, laidLooks := .later }
def TokenCodesUptoCardSaid : Prop := Claim7.holds Tryd.pinned (.plain (OpenSpec.upto tokenCodesSpec)) tokenCodesUptoCard

/-- THE SECOND FORM's CARD OF 'tollhouselaw14.TokenBack'. -/
def tokenBackUptoCard : Claim7 := { stood := { row := tokenBackUptoRow, standIns := [], harness := (true, "fc0d53e4362b60a45468f85e45eddc2d8c4d829177ae9c7f0ad8fed5ff448710"), looks := false }, kinds := [], alts := [], laidByText := true, laidKinds := [.data, .pinned], laidTests := true, laidLooks := .later }
def TokenBackUptoCardSaid : Prop := Claim7.holds Tryd.pinned (.plain (OpenSpec.upto tokenBackSpec)) tokenBackUptoCard

/-- THE SECOND FORM's CARD OF 'tollhouselaw14.TokenPlaces'. -/
def tokenPlacesUptoCard : Claim7 := { stood := { row := tokenPlacesUptoRow, standIns := [], harness := (true, "fc0d53e4362b60a45468f85e45eddc2d8c4d829177ae9c7f0ad8fed5ff448710"), looks := false }, kinds := [], alts := [], laidByText := true, laidKinds := [.data, .pinned], laidTests := true, laidLooks := .later }
def TokenPlacesUptoCardSaid : Prop := Claim7.holds Tryd.pinned (.plain (OpenSpec.upto tokenPlacesSpec)) tokenPlacesUptoCard

/-- THE SECOND FORM's CARD OF 'tollhouselaw14.TokenTurns'. -/
def tokenTurnsUptoCard : Claim7 := { stood := { row := tokenTurnsUptoRow, standIns := [], harness := (true, "fc0d53e4362b60a45468f85e45eddc2d8c4d829177ae9c7f0ad8fed5ff448710"), looks := false }, kinds := [], alts := [], laidByText := true, laidKinds := [.data, .pinned], laidTests := true, laidLooks := .later }
def TokenTurnsUptoCardSaid : Prop := Claim7.holds Tryd.pinned (.plain (OpenSpec.upto tokenTurnsSpec)) tokenTurnsUptoCard

/-- THE SECOND FORM's CARD OF 'tollhouselaw12.TableTells'. -/
def tableTellsUptoCard : Claim7 := { stood := { row := tableTellsUptoRow, standIns := [], harness := (true, "fc0d53e4362b60a45468f85e45eddc2d8c4d829177ae9c7f0ad8fed5ff448710"), looks := false }, kinds := [], alts := [], laidByText := true, laidKinds := [.data, .pinned], laidTests := true, laidLooks := .later }
def TableTellsUptoCardSaid : Prop := Claim7.holds Tryd.pinned (.plain (OpenSpec.upto tableTellsSpec)) tableTellsUptoCard

/-- THE SECOND FORM's CARD OF 'tollhouselaw12.TableBack'. -/
def tableBackUptoCard : Claim7 := { stood := { row := tableBackUptoRow, standIns := [], harness := (true, "fc0d53e4362b60a45468f85e45eddc2d8c4d829177ae9c7f0ad8fed5ff448710"), looks := false }, kinds := [], alts := [], laidByText := true, laidKinds := [.data, .pinned], laidTests := true, laidLooks := .later }
def TableBackUptoCardSaid : Prop := Claim7.holds Tryd.pinned (.plain (OpenSpec.upto tableBackSpec)) tableBackUptoCard

/-- THE SECOND FORM's CARD OF 'tollhouselaw12.TablePlaces'. -/
def tablePlacesUptoCard : Claim7 := { stood := { row := tablePlacesUptoRow, standIns := [], harness := (true, "fc0d53e4362b60a45468f85e45eddc2d8c4d829177ae9c7f0ad8fed5ff448710"), looks := false }, kinds := [], alts := [], laidByText := true, laidKinds := [.data, .pinned], laidTests := true, laidLooks := .later }
def TablePlacesUptoCardSaid : Prop := Claim7.holds Tryd.pinned (.plain (OpenSpec.upto tablePlacesSpec)) tablePlacesUptoCard

/-- THE SECOND FORM's CARD OF 'tollhouselaw12.TableOrder'. -/
def tableOrderUptoCard : Claim7 := { stood := { row := tableOrderUptoRow, standIns := [], harness := (true, "fc0d53e4362b60a45468f85e45eddc2d8c4d829177ae9c7f0ad8fed5ff448710"), looks := false }, kinds := [], alts := [], laidByText := true, laidKinds := [.data, .pinned], laidTests := true, laidLooks := .later }
def TableOrderUptoCardSaid : Prop := Claim7.holds Tryd.pinned (.plain (OpenSpec.upto tableOrderSpec)) tableOrderUptoCard
end Rows
end Go.Proofs.YtmblapgoimegkaaDoor
