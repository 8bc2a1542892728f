/-
  DERIVED. GIVEN WITH THE SEED: THE CARDS: each row of YtpfglknbkpcfnaaDoorRows.lean that lists a variable, with what it lists TIED to the program's text (the seventh form; the later family's looks); each row that meets fmt, with fmt's text TOLD by the authors' own Lean function (tested against real Go, not proved from fmt's source: count such statements apart). THE CARD IS WHAT COUNTS. Prove the row's statement (the work); the ties are given (YtpfglknbkpcfnaaDoorTie.lean); close each card by the builder's one call (the guide's Derived/Test/ToyasCard.lean, 'card_holds'). Laid BY PROGRAM, IN A SANDBOX (cutbox-door.mjs). By AI agents, Wed Nov 11 2026. No macro, syntax, notation, axiom, sorry.
-/
import Derived.Test.YtpfglknbkpcfnaaDoorRows
import GoSem.ClaimSeven
namespace Go.Proofs.YtpfglknbkpcfnaaDoor
namespace Rows

/-- THE TIED CARD OF 'prowlaw09.CrossingLeast'. -/
def crossingLeastCard : Claim7 := { stood := { row := crossingLeastRow, standIns := [], harness := (true, "daefdcd58ee7c110e84fa597da64eaf599734d2dd5c9ec4d48f63bd60228f7a2"), looks := false }, kinds := [], alts := [], laidByText := true, laidKinds := [.funcs, .data, .data, .funcs, .data, .funcs], laidTests := true, laidLooks := .later }
def CrossingLeastCardSaid : Prop := Claim7.holds Tryd.pinned (.plain (OpenSpec.ofChange crossingLeastSpec)) crossingLeastCard

/-- THE TIED CARD OF 'prowlaw09.CrossingNext'. -/
def crossingNextCard : Claim7 := { stood := { row := crossingNextRow, standIns := [], harness := (true, "daefdcd58ee7c110e84fa597da64eaf599734d2dd5c9ec4d48f63bd60228f7a2"), looks := false }, kinds := [], alts := [], laidByText := true, laidKinds := [.funcs, .data, .data, .funcs, .data, .funcs], laidTests := true, laidLooks := .later }
def CrossingNextCardSaid : Prop := Claim7.holds Tryd.pinned (.plain (OpenSpec.ofChange crossingNextSpec)) crossingNextCard

/-- THE TIED CARD OF 'prowlaw09.CrossingPast'. -/
def crossingPastCard : Claim7 := { stood := { row := crossingPastRow, standIns := [], harness := (true, "daefdcd58ee7c110e84fa597da64eaf599734d2dd5c9ec4d48f63bd60228f7a2"), looks := false }, kinds := [], alts := [], laidByText := true, laidKinds := [.funcs, .data, .data, .funcs, .data, .funcs], laidTests := true, laidLooks := .later }
def CrossingPastCardSaid : Prop := Claim7.holds Tryd.pinned (.plain (OpenSpec.ofChange crossingPastSpec)) crossingPastCard

/-- THE TIED CARD OF 'prowlaw09.CrossingPlan'. -/
def crossingPlanCard : Claim7 := { stood := { row := crossingPlanRow, standIns := [], harness := (true, "daefdcd58ee7c110e84fa597da64eaf599734d2dd5c9ec4d48f63bd60228f7a2"), looks := false }, kinds := [], alts := [], laidByText := true, laidKinds := [.funcs, .data, .data, .funcs, .data, .funcs], laidTests := true, laidLooks := .later }
def CrossingPlanCardSaid : Prop := Claim7.holds Tryd.pinned (.plain (OpenSpec.ofChange crossingPlanSpec)) crossingPlanCard

/-- THE TIED CARD OF 'prowlaw09.CrossingBefore'. -/
def crossingBeforeCard : Claim7 := { stood := { row := crossingBeforeRow, standIns := [], harness := (true, "daefdcd58ee7c110e84fa597da64eaf599734d2dd5c9ec4d48f63bd60228f7a2"), looks := false }, kinds := [], alts := [], laidByText := true, laidKinds := [.funcs, .data, .data, .funcs, .data, .funcs], laidTests := true, laidLooks := .later }
def CrossingBeforeCardSaid : Prop := Claim7.holds Tryd.pinned (.plain (OpenSpec.ofChange crossingBeforeSpec)) crossingBeforeCard

/-- THE TIED CARD OF 'prowlaw09.CrossingMany'. -/
def crossingManyCard : Claim7 := { stood := { row := crossingManyRow, standIns := [], harness := (true, "daefdcd58ee7c110e84fa597da64eaf599734d2dd5c9ec4d48f63bd60228f7a2"), looks := false }, kinds := [], alts := [], laidByText := true, laidKinds := [.funcs, .data, .data, .funcs, .data, .funcs], laidTests := true, laidLooks := .later }
def CrossingManyCardSaid : Prop := Claim7.holds Tryd.pinned (.plain (OpenSpec.ofChange crossingManySpec)) crossingManyCard

/-- THE TIED CARD OF 'prowlaw09.CrossingLate'. -/
def crossingLateCard : Claim7 := { stood := { row := crossingLateRow, standIns := [], harness := (true, "daefdcd58ee7c110e84fa597da64eaf599734d2dd5c9ec4d48f63bd60228f7a2"), looks := false }, kinds := [], alts := [], laidByText := true, laidKinds := [.funcs, .data, .data, .funcs, .data, .funcs], laidTests := true, laidLooks := .later }
def CrossingLateCardSaid : Prop := Claim7.holds Tryd.pinned (.plain (OpenSpec.ofChange crossingLateSpec)) crossingLateCard

/-- THE TIED CARD OF 'prowlaw09.CrossingShip'. -/
def crossingShipCard : Claim7 := { stood := { row := crossingShipRow, standIns := [], harness := (true, "daefdcd58ee7c110e84fa597da64eaf599734d2dd5c9ec4d48f63bd60228f7a2"), looks := false }, kinds := [], alts := [], laidByText := true, laidKinds := [.funcs, .data, .data, .funcs, .data, .funcs], laidTests := true, laidLooks := .later }
def CrossingShipCardSaid : Prop := Claim7.holds Tryd.pinned (.plain (OpenSpec.ofChange crossingShipSpec)) crossingShipCard

/-- THE TIED CARD OF 'prowlaw09.CrossingMore'. -/
def crossingMoreCard : Claim7 := { stood := { row := crossingMoreRow, standIns := [], harness := (true, "daefdcd58ee7c110e84fa597da64eaf599734d2dd5c9ec4d48f63bd60228f7a2"), looks := false }, kinds := [], alts := [], laidByText := true, laidKinds := [.funcs, .data, .data, .funcs, .data, .funcs], laidTests := true, laidLooks := .later }
def CrossingMoreCardSaid : Prop := Claim7.holds Tryd.pinned (.plain (OpenSpec.ofChange crossingMoreSpec)) crossingMoreCard

/-- THE TIED CARD OF 'prowlaw09.CrossingKnown'. -/
def crossingKnownCard : Claim7 := { stood := { row := crossingKnownRow, standIns := [], harness := (true, "daefdcd58ee7c110e84fa597da64eaf599734d2dd5c9ec4d48f63bd60228f7a2"), looks := false }, kinds := [], alts := [], laidByText := true, laidKinds := [.funcs, .data, .data, .funcs, .data, .funcs], laidTests := true, laidLooks := .later }
def CrossingKnownCardSaid : Prop := Claim7.holds Tryd.pinned (.plain (OpenSpec.ofChange crossingKnownSpec)) crossingKnownCard

/-- THE SECOND FORM's CARD OF 'prowlaw09.CrossingLeast'. -/
def crossingLeastUptoCard : Claim7 := { stood := { row := crossingLeastUptoRow, standIns := [], harness := (true, "daefdcd58ee7c110e84fa597da64eaf599734d2dd5c9ec4d48f63bd60228f7a2"), looks := false }, kinds := [], alts := [], laidByText := true, laidKinds := [.funcs, .data, .data, .funcs, .data, .funcs], laidTests := true, laidLooks := .later }
def CrossingLeastUptoCardSaid : Prop := Claim7.holds Tryd.pinned (.plain (OpenSpec.upto crossingLeastSpec)) crossingLeastUptoCard

/-- THE SECOND FORM's CARD OF 'prowlaw09.CrossingNext'. -/
def crossingNextUptoCard : Claim7 := { stood := { row := crossingNextUptoRow, standIns := [], harness := (true, "daefdcd58ee7c110e84fa597da64eaf599734d2dd5c9ec4d48f63bd60228f7a2"), looks := false }, kinds := [], alts := [], laidByText := true, laidKinds := [.funcs, .data, .data, .funcs, .data, .funcs], laidTests := true, laidLooks := .later }
def CrossingNextUptoCardSaid : Prop := Claim7.holds Tryd.pinned (.plain (OpenSpec.upto crossingNextSpec)) crossingNextUptoCard

/-- THE SECOND FORM's CARD OF 'prowlaw09.CrossingPast'. -/
def crossingPastUptoCard : Claim7 := { stood := { row := crossingPastUptoRow, standIns := [], harness := (true, "daefdcd58ee7c110e84fa597da64eaf599734d2dd5c9ec4d48f63bd60228f7a2"), looks := false }, kinds := [], alts := [], laidByText := true, laidKinds := [.funcs, .data, .data, .funcs, .data, .funcs], laidTests := true, laidLooks := .later }
def CrossingPastUptoCardSaid : Prop := Claim7.holds Tryd.pinned (.plain (OpenSpec.upto crossingPastSpec)) crossingPastUptoCard

/-- THE SECOND FORM's CARD OF 'prowlaw09.CrossingPlan'. -/
def crossingPlanUptoCard : Claim7 := { stood := { row := crossingPlanUptoRow, standIns := [], harness := (true, "daefdcd58ee7c110e84fa597da64eaf599734d2dd5c9ec4d48f63bd60228f7a2"), looks := false }, kinds := [], alts := [], laidByText := true, laidKinds := [.funcs, .data, .data, .funcs, .data, .funcs], laidTests := true, laidLooks := .later }
def CrossingPlanUptoCardSaid : Prop := Claim7.holds Tryd.pinned (.plain (OpenSpec.upto crossingPlanSpec)) crossingPlanUptoCard

/-- THE SECOND FORM's CARD OF 'prowlaw09.CrossingBefore'. -/
def crossingBeforeUptoCard : Claim7 := { stood := { row := crossingBeforeUptoRow, standIns := [], harness := (true, "daefdcd58ee7c110e84fa597da64eaf599734d2dd5c9ec4d48f63bd60228f7a2"), looks := false }, kinds := [], alts := [], laidByText := true, laidKinds := [.funcs, .data, .data, .funcs, .data, .funcs], laidTests := true, laidLooks := .later }
def CrossingBeforeUptoCardSaid : Prop := Claim7.holds Tryd.pinned (.plain (OpenSpec.upto crossingBeforeSpec)) crossingBeforeUptoCard

/-- THE SECOND FORM's CARD OF 'prowlaw09.CrossingMany'. -/
def crossingManyUptoCard : Claim7 := { stood := { row := crossingManyUptoRow, standIns := [], harness := (true, "daefdcd58ee7c110e84fa597da64eaf599734d2dd5c9ec4d48f63bd60228f7a2"), looks := false }, kinds := [], alts := [], laidByText := true, laidKinds := [.funcs, .data, .data, .funcs, .data, .funcs], laidTests := true, laidLooks := .later }
def CrossingManyUptoCardSaid : Prop := Claim7.holds Tryd.pinned (.plain (OpenSpec.upto crossingManySpec)) crossingManyUptoCard

/-- THE SECOND FORM's CARD OF 'prowlaw09.CrossingLate'. -/
def crossingLateUptoCard : Claim7 := { stood := { row := crossingLateUptoRow, standIns := [], harness := (true, "daefdcd58ee7c110e84fa597da64eaf599734d2dd5c9ec4d48f63bd60228f7a2"), looks := false }, kinds := [], alts := [], laidByText := true, laidKinds := [.funcs, .data, .data, .funcs, .data, .funcs], laidTests := true, laidLooks := .later }
def CrossingLateUptoCardSaid : Prop := Claim7.holds Tryd.pinned (.plain (OpenSpec.upto crossingLateSpec)) crossingLateUptoCard

/-- THE SECOND FORM's CARD OF 'prowlaw09.CrossingShip'. -/
def crossingShipUptoCard : Claim7 := { stood := { row := crossingShipUptoRow, standIns := [], harness := (true, "daefdcd58ee7c110e84fa597da64eaf599734d2dd5c9ec4d48f63bd60228f7a2"), looks := false }, kinds := [], alts := [], laidByText := true, laidKinds := [.funcs, .data, .data, .funcs, .data, .funcs], laidTests := true, laidLooks := .later }
def CrossingShipUptoCardSaid : Prop := Claim7.holds Tryd.pinned (.plain (OpenSpec.upto crossingShipSpec)) crossingShipUptoCard

/-- THE SECOND FORM's CARD OF 'prowlaw09.CrossingMore'. -/
def crossingMoreUptoCard : Claim7 := { stood := { row := crossingMoreUptoRow, standIns := [], harness := (true, "daefdcd58ee7c110e84fa597da64eaf599734d2dd5c9ec4d48f63bd60228f7a2"), looks := false }, kinds := [], alts := [], laidByText := true, laidKinds := [.funcs, .data, .data, .funcs, .data, .funcs], laidTests := true, laidLooks := .later }
def CrossingMoreUptoCardSaid : Prop := Claim7.holds Tryd.pinned (.plain (OpenSpec.upto crossingMoreSpec)) crossingMoreUptoCard

/-- THE SECOND FORM's CARD OF 'prowlaw09.CrossingKnown'. -/
def crossingKnownUptoCard : Claim7 := { stood := { row := crossingKnownUptoRow, standIns := [], harness := (true, "daefdcd58ee7c110e84fa597da64eaf599734d2dd5c9ec4d48f63bd60228f7a2"), looks := false }, kinds := [], alts := [], laidByText := true, laidKinds := [.funcs, .data, .data, .funcs, .data, .funcs], laidTests := true, laidLooks := .later }
def CrossingKnownUptoCardSaid : Prop := Claim7.holds Tryd.pinned (.plain (OpenSpec.upto crossingKnownSpec)) crossingKnownUptoCard
end Rows
end Go.Proofs.YtpfglknbkpcfnaaDoor
