/-
  DERIVED. GIVEN WITH THE SEED: THE CARDS: each row of YthfnedbpmdkdjaaDoorRows.lean that lists a variable, with what it lists TIED to the program's text (the seventh form; the later family's looks); each row that meets fmt, with fmt's text TOLD by the authors' own Lean function (tested against real Go, not proved from fmt's source: count such statements apart). THE CARD IS WHAT COUNTS. Prove the row's statement (the work); the ties are given (YthfnedbpmdkdjaaDoorTie.lean); close each card by the builder's one call (the guide's Derived/Test/ToyasCard.lean, 'card_holds'). Laid BY PROGRAM, IN A SANDBOX (cutbox-door.mjs). By AI agents, Wed Nov 11 2026. No macro, syntax, notation, axiom, sorry.
-/
import Derived.Test.YthfnedbpmdkdjaaDoorRows
import GoSem.ClaimSeven
namespace Go.Proofs.YthfnedbpmdkdjaaDoor
namespace Rows

/-- THE TIED CARD OF 'prowlaw03.DeckLists'. -/
def deckListsCard : Claim7 := { stood := { row := deckListsRow, standIns := [], harness := (true, "71e429e5d50467e4eb3a4a45fe075b3e8e51913f4de5a7d73ffff4116d0e8aa5"), looks := false }, kinds := [], alts := [], laidByText := true, laidKinds := [.funcs, .data], laidTests := true, laidLooks := .later }
def DeckListsCardSaid : Prop := Claim7.holds Tryd.pinned (.plain (OpenSpec.ofChange deckListsSpec)) deckListsCard

/-- THE TIED CARD OF 'prowlaw03.DeckStows'. -/
def deckStowsCard : Claim7 := { stood := { row := deckStowsRow, standIns := [], harness := (true, "71e429e5d50467e4eb3a4a45fe075b3e8e51913f4de5a7d73ffff4116d0e8aa5"), looks := false }, kinds := [], alts := [], laidByText := true, laidKinds := [.funcs, .data], laidTests := true, laidLooks := .later }
def DeckStowsCardSaid : Prop := Claim7.holds Tryd.pinned (.plain (OpenSpec.ofChange deckStowsSpec)) deckStowsCard

/-- THE TIED CARD OF 'prowlaw03.DeckFewests'. -/
def deckFewestsCard : Claim7 := { stood := { row := deckFewestsRow, standIns := [], harness := (true, "71e429e5d50467e4eb3a4a45fe075b3e8e51913f4de5a7d73ffff4116d0e8aa5"), looks := false }, kinds := [], alts := [], laidByText := true, laidKinds := [.funcs, .data], laidTests := true, laidLooks := .later }
def DeckFewestsCardSaid : Prop := Claim7.holds Tryd.pinned (.plain (OpenSpec.ofChange deckFewestsSpec)) deckFewestsCard

/-- THE TIED CARD OF 'prowlaw03.DeckTrue'. -/
def deckTrueCard : Claim7 := { stood := { row := deckTrueRow, standIns := [], harness := (true, "71e429e5d50467e4eb3a4a45fe075b3e8e51913f4de5a7d73ffff4116d0e8aa5"), looks := false }, kinds := [], alts := [], laidByText := true, laidKinds := [.funcs, .data], laidTests := true, laidLooks := .later }
def DeckTrueCardSaid : Prop := Claim7.holds Tryd.pinned (.plain (OpenSpec.ofChange deckTrueSpec)) deckTrueCard

/-- THE TIED CARD OF 'prowlaw03.DeckEnds'. -/
def deckEndsCard : Claim7 := { stood := { row := deckEndsRow, standIns := [], harness := (true, "71e429e5d50467e4eb3a4a45fe075b3e8e51913f4de5a7d73ffff4116d0e8aa5"), looks := false }, kinds := [], alts := [], laidByText := true, laidKinds := [.funcs, .data], laidTests := true, laidLooks := .later }
def DeckEndsCardSaid : Prop := Claim7.holds Tryd.pinned (.plain (OpenSpec.ofChange deckEndsSpec)) deckEndsCard

/-- THE TIED CARD OF 'prowlaw03.DeckSides'. -/
def deckSidesCard : Claim7 := { stood := { row := deckSidesRow, standIns := [], harness := (true, "71e429e5d50467e4eb3a4a45fe075b3e8e51913f4de5a7d73ffff4116d0e8aa5"), looks := false }, kinds := [], alts := [], laidByText := true, laidKinds := [.funcs, .data], laidTests := true, laidLooks := .later }
def DeckSidesCardSaid : Prop := Claim7.holds Tryd.pinned (.plain (OpenSpec.ofChange deckSidesSpec)) deckSidesCard

/-- THE TIED CARD OF 'prowlaw03.DeckStow'. -/
def deckStowCard : Claim7 := { stood := { row := deckStowRow, standIns := [], harness := (true, "71e429e5d50467e4eb3a4a45fe075b3e8e51913f4de5a7d73ffff4116d0e8aa5"), looks := false }, kinds := [], alts := [], laidByText := true, laidKinds := [.funcs, .data], laidTests := true, laidLooks := .later }
def DeckStowCardSaid : Prop := Claim7.holds Tryd.pinned (.plain (OpenSpec.ofChange deckStowSpec)) deckStowCard

/-- THE TIED CARD OF 'prowlaw03.DeckMost'. -/
def deckMostCard : Claim7 := { stood := { row := deckMostRow, standIns := [], harness := (true, "71e429e5d50467e4eb3a4a45fe075b3e8e51913f4de5a7d73ffff4116d0e8aa5"), looks := false }, kinds := [], alts := [], laidByText := true, laidKinds := [.funcs, .data], laidTests := true, laidLooks := .later }
def DeckMostCardSaid : Prop := Claim7.holds Tryd.pinned (.plain (OpenSpec.ofChange deckMostSpec)) deckMostCard

/-- THE TIED CARD OF 'prowlaw03.DeckFewest'. -/
def deckFewestCard : Claim7 := { stood := { row := deckFewestRow, standIns := [], harness := (true, "71e429e5d50467e4eb3a4a45fe075b3e8e51913f4de5a7d73ffff4116d0e8aa5"), looks := false }, kinds := [], alts := [], laidByText := true, laidKinds := [.funcs, .data], laidTests := true, laidLooks := .later }
def DeckFewestCardSaid : Prop := Claim7.holds Tryd.pinned (.plain (OpenSpec.ofChange deckFewestSpec)) deckFewestCard

/-- THE TIED CARD OF 'prowlaw03.DeckNever'. -/
def deckNeverCard : Claim7 := { stood := { row := deckNeverRow, standIns := [], harness := (true, "71e429e5d50467e4eb3a4a45fe075b3e8e51913f4de5a7d73ffff4116d0e8aa5"), looks := false }, kinds := [], alts := [], laidByText := true, laidKinds := [.funcs, .data], laidTests := true, laidLooks := .later }
def DeckNeverCardSaid : Prop := Claim7.holds Tryd.pinned (.plain (OpenSpec.ofChange deckNeverSpec)) deckNeverCard

/-- THE TIED CARD OF 'prowlaw03.DeckMore'. -/
def deckMoreCard : Claim7 := { stood := { row := deckMoreRow, standIns := [], harness := (true, "71e429e5d50467e4eb3a4a45fe075b3e8e51913f4de5a7d73ffff4116d0e8aa5"), looks := false }, kinds := [], alts := [], laidByText := true, laidKinds := [.funcs, .data], laidTests := true, laidLooks := .later }
def DeckMoreCardSaid : Prop := Claim7.holds Tryd.pinned (.plain (OpenSpec.ofChange deckMoreSpec)) deckMoreCard

/-- THE TIED CARD OF 'prowlaw03.DeckWeigh'. -/
def deckWeighCard : Claim7 := { stood := { row := deckWeighRow, standIns := [], harness := (true, "71e429e5d50467e4eb3a4a45fe075b3e8e51913f4de5a7d73ffff4116d0e8aa5"), looks := false }, kinds := [], alts := [], laidByText := true, laidKinds := [.funcs, .data], laidTests := true, laidLooks := .later }
def DeckWeighCardSaid : Prop := Claim7.holds Tryd.pinned (.plain (OpenSpec.ofChange deckWeighSpec)) deckWeighCard

/-- THE TIED CARD OF 'prowlaw03.DeckKnown'. -/
def deckKnownCard : Claim7 := { stood := { row := deckKnownRow, standIns := [], harness := (true, "71e429e5d50467e4eb3a4a45fe075b3e8e51913f4de5a7d73ffff4116d0e8aa5"), looks := false }, kinds := [], alts := [], laidByText := true, laidKinds := [.funcs, .data], laidTests := true, laidLooks := .later }
def DeckKnownCardSaid : Prop := Claim7.holds Tryd.pinned (.plain (OpenSpec.ofChange deckKnownSpec)) deckKnownCard

/-- THE SECOND FORM's CARD OF 'prowlaw03.DeckLists'. -/
def deckListsUptoCard : Claim7 := { stood := { row := deckListsUptoRow, standIns := [], harness := (true, "71e429e5d50467e4eb3a4a45fe075b3e8e51913f4de5a7d73ffff4116d0e8aa5"), looks := false }, kinds := [], alts := [], laidByText := true, laidKinds := [.funcs, .data], laidTests := true, laidLooks := .later }
def DeckListsUptoCardSaid : Prop := Claim7.holds Tryd.pinned (.plain (OpenSpec.upto deckListsSpec)) deckListsUptoCard

/-- THE SECOND FORM's CARD OF 'prowlaw03.DeckStows'. -/
def deckStowsUptoCard : Claim7 := { stood := { row := deckStowsUptoRow, standIns := [], harness := (true, "71e429e5d50467e4eb3a4a45fe075b3e8e51913f4de5a7d73ffff4116d0e8aa5"), looks := false }, kinds := [], alts := [], laidByText := true, laidKinds := [.funcs, .data], laidTests := true, laidLooks := .later }
def DeckStowsUptoCardSaid : Prop := Claim7.holds Tryd.pinned (.plain (OpenSpec.upto deckStowsSpec)) deckStowsUptoCard

/-- THE SECOND FORM's CARD OF 'prowlaw03.DeckFewests'. -/
def deckFewestsUptoCard : Claim7 := { stood := { row := deckFewestsUptoRow, standIns := [], harness := (true, "71e429e5d50467e4eb3a4a45fe075b3e8e51913f4de5a7d73ffff4116d0e8aa5"), looks := false }, kinds := [], alts := [], laidByText := true, laidKinds := [.funcs, .data], laidTests := true, laidLooks := .later }
def DeckFewestsUptoCardSaid : Prop := Claim7.holds Tryd.pinned (.plain (OpenSpec.upto deckFewestsSpec)) deckFewestsUptoCard

/-- THE SECOND FORM's CARD OF 'prowlaw03.DeckTrue'. -/
def deckTrueUptoCard : Claim7 := { stood := { row := deckTrueUptoRow, standIns := [], harness := (true, "71e429e5d50467e4eb3a4a45fe075b3e8e51913f4de5a7d73ffff4116d0e8aa5"), looks := false }, kinds := [], alts := [], laidByText := true, laidKinds := [.funcs, .data], laidTests := true, laidLooks := .later }
def DeckTrueUptoCardSaid : Prop := Claim7.holds Tryd.pinned (.plain (OpenSpec.upto deckTrueSpec)) deckTrueUptoCard

/-- THE SECOND FORM's CARD OF 'prowlaw03.DeckEnds'. -/
def deckEndsUptoCard : Claim7 := { stood := { row := deckEndsUptoRow, standIns := [], harness := (true, "71e429e5d50467e4eb3a4a45fe075b3e8e51913f4de5a7d73ffff4116d0e8aa5"), looks := false }, kinds := [], alts := [], laidByText := true, laidKinds := [.funcs, .data], laidTests := true, laidLooks := .later }
def DeckEndsUptoCardSaid : Prop := Claim7.holds Tryd.pinned (.plain (OpenSpec.upto deckEndsSpec)) deckEndsUptoCard

/-- THE SECOND FORM's CARD OF 'prowlaw03.DeckSides'. -/
def deckSidesUptoCard : Claim7 := { stood := { row := deckSidesUptoRow, standIns := [], harness := (true, "71e429e5d50467e4eb3a4a45fe075b3e8e51913f4de5a7d73ffff4116d0e8aa5"), looks := false }, kinds := [], alts := [], laidByText := true, laidKinds := [.funcs, .data], laidTests := true, laidLooks := .later }
def DeckSidesUptoCardSaid : Prop := Claim7.holds Tryd.pinned (.plain (OpenSpec.upto deckSidesSpec)) deckSidesUptoCard

/-- THE SECOND FORM's CARD OF 'prowlaw03.DeckStow'. -/
def deckStowUptoCard : Claim7 := { stood := { row := deckStowUptoRow, standIns := [], harness := (true, "71e429e5d50467e4eb3a4a45fe075b3e8e51913f4de5a7d73ffff4116d0e8aa5"), looks := false }, kinds := [], alts := [], laidByText := true, laidKinds := [.funcs, .data], laidTests := true, laidLooks := .later }
def DeckStowUptoCardSaid : Prop := Claim7.holds Tryd.pinned (.plain (OpenSpec.upto deckStowSpec)) deckStowUptoCard

/-- THE SECOND FORM's CARD OF 'prowlaw03.DeckMost'. -/
def deckMostUptoCard : Claim7 := { stood := { row := deckMostUptoRow, standIns := [], harness := (true, "71e429e5d50467e4eb3a4a45fe075b3e8e51913f4de5a7d73ffff4116d0e8aa5"), looks := false }, kinds := [], alts := [], laidByText := true, laidKinds := [.funcs, .data], laidTests := true, laidLooks := .later }
def DeckMostUptoCardSaid : Prop := Claim7.holds Tryd.pinned (.plain (OpenSpec.upto deckMostSpec)) deckMostUptoCard

/-- THE SECOND FORM's CARD OF 'prowlaw03.DeckFewest'. -/
def deckFewestUptoCard : Claim7 := { stood := { row := deckFewestUptoRow, standIns := [], harness := (true, "71e429e5d50467e4eb3a4a45fe075b3e8e51913f4de5a7d73ffff4116d0e8aa5"), looks := false }, kinds := [], alts := [], laidByText := true, laidKinds := [.funcs, .data], laidTests := true, laidLooks := .later }
def DeckFewestUptoCardSaid : Prop := Claim7.holds Tryd.pinned (.plain (OpenSpec.upto deckFewestSpec)) deckFewestUptoCard

/-- THE SECOND FORM's CARD OF 'prowlaw03.DeckNever'. -/
def deckNeverUptoCard : Claim7 := { stood := { row := deckNeverUptoRow, standIns := [], harness := (true, "71e429e5d50467e4eb3a4a45fe075b3e8e51913f4de5a7d73ffff4116d0e8aa5"), looks := false }, kinds := [], alts := [], laidByText := true, laidKinds := [.funcs, .data], laidTests := true, laidLooks := .later }
def DeckNeverUptoCardSaid : Prop := Claim7.holds Tryd.pinned (.plain (OpenSpec.upto deckNeverSpec)) deckNeverUptoCard

/-- THE SECOND FORM's CARD OF 'prowlaw03.DeckMore'. -/
def deckMoreUptoCard : Claim7 := { stood := { row := deckMoreUptoRow, standIns := [], harness := (true, "71e429e5d50467e4eb3a4a45fe075b3e8e51913f4de5a7d73ffff4116d0e8aa5"), looks := false }, kinds := [], alts := [], laidByText := true, laidKinds := [.funcs, .data], laidTests := true, laidLooks := .later }
def DeckMoreUptoCardSaid : Prop := Claim7.holds Tryd.pinned (.plain (OpenSpec.upto deckMoreSpec)) deckMoreUptoCard

/-- THE SECOND FORM's CARD OF 'prowlaw03.DeckWeigh'. -/
def deckWeighUptoCard : Claim7 := { stood := { row := deckWeighUptoRow, standIns := [], harness := (true, "71e429e5d50467e4eb3a4a45fe075b3e8e51913f4de5a7d73ffff4116d0e8aa5"), looks := false }, kinds := [], alts := [], laidByText := true, laidKinds := [.funcs, .data], laidTests := true, laidLooks := .later }
def DeckWeighUptoCardSaid : Prop := Claim7.holds Tryd.pinned (.plain (OpenSpec.upto deckWeighSpec)) deckWeighUptoCard

/-- THE SECOND FORM's CARD OF 'prowlaw03.DeckKnown'. -/
def deckKnownUptoCard : Claim7 := { stood := { row := deckKnownUptoRow, standIns := [], harness := (true, "71e429e5d50467e4eb3a4a45fe075b3e8e51913f4de5a7d73ffff4116d0e8aa5"), looks := false }, kinds := [], alts := [], laidByText := true, laidKinds := [.funcs, .data], laidTests := true, laidLooks := .later }
def DeckKnownUptoCardSaid : Prop := Claim7.holds Tryd.pinned (.plain (OpenSpec.upto deckKnownSpec)) deckKnownUptoCard
end Rows
end Go.Proofs.YthfnedbpmdkdjaaDoor
