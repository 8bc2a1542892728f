/-
  DERIVED. GIVEN WITH THE SEED: THE CARDS: each row of YtamimgmoomcipaaDoorRows.lean that lists a variable, with what it lists TIED to the program's text (the seventh form; the later family's looks); each row that meets fmt, with fmt's text TOLD by the authors' own Lean function (tested against real Go, not proved from fmt's source: count such statements apart). THE CARD IS WHAT COUNTS. Prove the row's statement (the work); the ties are given (YtamimgmoomcipaaDoorTie.lean); close each card by the builder's one call (the guide's Derived/Test/ToyasCard.lean, 'card_holds'). Laid BY PROGRAM, IN A SANDBOX (cutbox-door.mjs). By AI agents, Wed Nov 11 2026. No macro, syntax, notation, axiom, sorry.
-/
import Derived.Test.YtamimgmoomcipaaDoorRows
import GoSem.ClaimSeven
namespace Go.Proofs.YtamimgmoomcipaaDoor
namespace Rows

/-- THE TIED CARD OF 'prowlaw04.FairwayNears'. -/
def fairwayNearsCard : Claim7 := { stood := { row := fairwayNearsRow, standIns := [], harness := (true, "ef392e97b162526d93bd78dba9d83a08df591b02bb2d0549a2f6c06ef34b8c2a"), looks := false }, kinds := [], alts := [], laidByText := true, laidKinds := [.funcs], laidTests := true, laidLooks := .later }
def FairwayNearsCardSaid : Prop := Claim7.holds Tryd.pinned (.plain (OpenSpec.ofChange fairwayNearsSpec)) fairwayNearsCard

/-- THE TIED CARD OF 'prowlaw04.FairwayClears'. -/
def fairwayClearsCard : Claim7 := { stood := { row := fairwayClearsRow, standIns := [], harness := (true, "ef392e97b162526d93bd78dba9d83a08df591b02bb2d0549a2f6c06ef34b8c2a"), looks := false }, kinds := [], alts := [], laidByText := true, laidKinds := [.funcs], laidTests := true, laidLooks := .later }
def FairwayClearsCardSaid : Prop := Claim7.holds Tryd.pinned (.plain (OpenSpec.ofChange fairwayClearsSpec)) fairwayClearsCard

/-- THE TIED CARD OF 'prowlaw04.FairwayFrees'. -/
def fairwayFreesCard : Claim7 := { stood := { row := fairwayFreesRow, standIns := [], harness := (true, "ef392e97b162526d93bd78dba9d83a08df591b02bb2d0549a2f6c06ef34b8c2a"), looks := false }, kinds := [], alts := [], laidByText := true, laidKinds := [.funcs], laidTests := true, laidLooks := .later }
def FairwayFreesCardSaid : Prop := Claim7.holds Tryd.pinned (.plain (OpenSpec.ofChange fairwayFreesSpec)) fairwayFreesCard

/-- THE TIED CARD OF 'prowlaw04.FairwayTrue'. -/
def fairwayTrueCard : Claim7 := { stood := { row := fairwayTrueRow, standIns := [], harness := (true, "ef392e97b162526d93bd78dba9d83a08df591b02bb2d0549a2f6c06ef34b8c2a"), looks := false }, kinds := [], alts := [], laidByText := true, laidKinds := [.funcs], laidTests := true, laidLooks := .later }
def FairwayTrueCardSaid : Prop := Claim7.holds Tryd.pinned (.plain (OpenSpec.ofChange fairwayTrueSpec)) fairwayTrueCard

/-- THE TIED CARD OF 'prowlaw04.FairwayWhen'. -/
def fairwayWhenCard : Claim7 := { stood := { row := fairwayWhenRow, standIns := [], harness := (true, "ef392e97b162526d93bd78dba9d83a08df591b02bb2d0549a2f6c06ef34b8c2a"), looks := false }, kinds := [], alts := [], laidByText := true, laidKinds := [.funcs], laidTests := true, laidLooks := .later }
def FairwayWhenCardSaid : Prop := Claim7.holds Tryd.pinned (.plain (OpenSpec.ofChange fairwayWhenSpec)) fairwayWhenCard

/-- THE TIED CARD OF 'prowlaw04.FairwayMay'. -/
def fairwayMayCard : Claim7 := { stood := { row := fairwayMayRow, standIns := [], harness := (true, "ef392e97b162526d93bd78dba9d83a08df591b02bb2d0549a2f6c06ef34b8c2a"), looks := false }, kinds := [], alts := [], laidByText := true, laidKinds := [.funcs], laidTests := true, laidLooks := .later }
def FairwayMayCardSaid : Prop := Claim7.holds Tryd.pinned (.plain (OpenSpec.ofChange fairwayMaySpec)) fairwayMayCard

/-- THE TIED CARD OF 'prowlaw04.FairwayNext'. -/
def fairwayNextCard : Claim7 := { stood := { row := fairwayNextRow, standIns := [], harness := (true, "ef392e97b162526d93bd78dba9d83a08df591b02bb2d0549a2f6c06ef34b8c2a"), looks := false }, kinds := [], alts := [], laidByText := true, laidKinds := [.funcs], laidTests := true, laidLooks := .later }
def FairwayNextCardSaid : Prop := Claim7.holds Tryd.pinned (.plain (OpenSpec.ofChange fairwayNextSpec)) fairwayNextCard

/-- THE TIED CARD OF 'prowlaw04.FairwayMore'. -/
def fairwayMoreCard : Claim7 := { stood := { row := fairwayMoreRow, standIns := [], harness := (true, "ef392e97b162526d93bd78dba9d83a08df591b02bb2d0549a2f6c06ef34b8c2a"), looks := false }, kinds := [], alts := [], laidByText := true, laidKinds := [.funcs], laidTests := true, laidLooks := .later }
def FairwayMoreCardSaid : Prop := Claim7.holds Tryd.pinned (.plain (OpenSpec.ofChange fairwayMoreSpec)) fairwayMoreCard

/-- THE TIED CARD OF 'prowlaw04.FairwayShorter'. -/
def fairwayShorterCard : Claim7 := { stood := { row := fairwayShorterRow, standIns := [], harness := (true, "ef392e97b162526d93bd78dba9d83a08df591b02bb2d0549a2f6c06ef34b8c2a"), looks := false }, kinds := [], alts := [], laidByText := true, laidKinds := [.funcs], laidTests := true, laidLooks := .later }
def FairwayShorterCardSaid : Prop := Claim7.holds Tryd.pinned (.plain (OpenSpec.ofChange fairwayShorterSpec)) fairwayShorterCard

/-- THE TIED CARD OF 'prowlaw04.FairwayWrong'. -/
def fairwayWrongCard : Claim7 := { stood := { row := fairwayWrongRow, standIns := [], harness := (true, "ef392e97b162526d93bd78dba9d83a08df591b02bb2d0549a2f6c06ef34b8c2a"), looks := false }, kinds := [], alts := [], laidByText := true, laidKinds := [.funcs], laidTests := true, laidLooks := .later }
def FairwayWrongCardSaid : Prop := Claim7.holds Tryd.pinned (.plain (OpenSpec.ofChange fairwayWrongSpec)) fairwayWrongCard

/-- THE TIED CARD OF 'prowlaw04.FairwayOne'. -/
def fairwayOneCard : Claim7 := { stood := { row := fairwayOneRow, standIns := [], harness := (true, "ef392e97b162526d93bd78dba9d83a08df591b02bb2d0549a2f6c06ef34b8c2a"), looks := false }, kinds := [], alts := [], laidByText := true, laidKinds := [.funcs], laidTests := true, laidLooks := .later }
def FairwayOneCardSaid : Prop := Claim7.holds Tryd.pinned (.plain (OpenSpec.ofChange fairwayOneSpec)) fairwayOneCard

/-- THE TIED CARD OF 'prowlaw04.FairwayKnown'. -/
def fairwayKnownCard : Claim7 := { stood := { row := fairwayKnownRow, standIns := [], harness := (true, "ef392e97b162526d93bd78dba9d83a08df591b02bb2d0549a2f6c06ef34b8c2a"), looks := false }, kinds := [], alts := [], laidByText := true, laidKinds := [.funcs], laidTests := true, laidLooks := .later }
def FairwayKnownCardSaid : Prop := Claim7.holds Tryd.pinned (.plain (OpenSpec.ofChange fairwayKnownSpec)) fairwayKnownCard

/-- THE SECOND FORM's CARD OF 'prowlaw04.FairwayNears'. -/
def fairwayNearsUptoCard : Claim7 := { stood := { row := fairwayNearsUptoRow, standIns := [], harness := (true, "ef392e97b162526d93bd78dba9d83a08df591b02bb2d0549a2f6c06ef34b8c2a"), looks := false }, kinds := [], alts := [], laidByText := true, laidKinds := [.funcs], laidTests := true, laidLooks := .later }
def FairwayNearsUptoCardSaid : Prop := Claim7.holds Tryd.pinned (.plain (OpenSpec.upto fairwayNearsSpec)) fairwayNearsUptoCard

/-- THE SECOND FORM's CARD OF 'prowlaw04.FairwayClears'. -/
def fairwayClearsUptoCard : Claim7 := { stood := { row := fairwayClearsUptoRow, standIns := [], harness := (true, "ef392e97b162526d93bd78dba9d83a08df591b02bb2d0549a2f6c06ef34b8c2a"), looks := false }, kinds := [], alts := [], laidByText := true, laidKinds := [.funcs], laidTests := true, laidLooks := .later }
def FairwayClearsUptoCardSaid : Prop := Claim7.holds Tryd.pinned (.plain (OpenSpec.upto fairwayClearsSpec)) fairwayClearsUptoCard

/-- THE SECOND FORM's CARD OF 'prowlaw04.FairwayFrees'. -/
def fairwayFreesUptoCard : Claim7 := { stood := { row := fairwayFreesUptoRow, standIns := [], harness := (true, "ef392e97b162526d93bd78dba9d83a08df591b02bb2d0549a2f6c06ef34b8c2a"), looks := false }, kinds := [], alts := [], laidByText := true, laidKinds := [.funcs], laidTests := true, laidLooks := .later }
def FairwayFreesUptoCardSaid : Prop := Claim7.holds Tryd.pinned (.plain (OpenSpec.upto fairwayFreesSpec)) fairwayFreesUptoCard

/-- THE SECOND FORM's CARD OF 'prowlaw04.FairwayTrue'. -/
def fairwayTrueUptoCard : Claim7 := { stood := { row := fairwayTrueUptoRow, standIns := [], harness := (true, "ef392e97b162526d93bd78dba9d83a08df591b02bb2d0549a2f6c06ef34b8c2a"), looks := false }, kinds := [], alts := [], laidByText := true, laidKinds := [.funcs], laidTests := true, laidLooks := .later }
def FairwayTrueUptoCardSaid : Prop := Claim7.holds Tryd.pinned (.plain (OpenSpec.upto fairwayTrueSpec)) fairwayTrueUptoCard

/-- THE SECOND FORM's CARD OF 'prowlaw04.FairwayWhen'. -/
def fairwayWhenUptoCard : Claim7 := { stood := { row := fairwayWhenUptoRow, standIns := [], harness := (true, "ef392e97b162526d93bd78dba9d83a08df591b02bb2d0549a2f6c06ef34b8c2a"), looks := false }, kinds := [], alts := [], laidByText := true, laidKinds := [.funcs], laidTests := true, laidLooks := .later }
def FairwayWhenUptoCardSaid : Prop := Claim7.holds Tryd.pinned (.plain (OpenSpec.upto fairwayWhenSpec)) fairwayWhenUptoCard

/-- THE SECOND FORM's CARD OF 'prowlaw04.FairwayMay'. -/
def fairwayMayUptoCard : Claim7 := { stood := { row := fairwayMayUptoRow, standIns := [], harness := (true, "ef392e97b162526d93bd78dba9d83a08df591b02bb2d0549a2f6c06ef34b8c2a"), looks := false }, kinds := [], alts := [], laidByText := true, laidKinds := [.funcs], laidTests := true, laidLooks := .later }
def FairwayMayUptoCardSaid : Prop := Claim7.holds Tryd.pinned (.plain (OpenSpec.upto fairwayMaySpec)) fairwayMayUptoCard

/-- THE SECOND FORM's CARD OF 'prowlaw04.FairwayNext'. -/
def fairwayNextUptoCard : Claim7 := { stood := { row := fairwayNextUptoRow, standIns := [], harness := (true, "ef392e97b162526d93bd78dba9d83a08df591b02bb2d0549a2f6c06ef34b8c2a"), looks := false }, kinds := [], alts := [], laidByText := true, laidKinds := [.funcs], laidTests := true, laidLooks := .later }
def FairwayNextUptoCardSaid : Prop := Claim7.holds Tryd.pinned (.plain (OpenSpec.upto fairwayNextSpec)) fairwayNextUptoCard

/-- THE SECOND FORM's CARD OF 'prowlaw04.FairwayMore'. -/
def fairwayMoreUptoCard : Claim7 := { stood := { row := fairwayMoreUptoRow, standIns := [], harness := (true, "ef392e97b162526d93bd78dba9d83a08df591b02bb2d0549a2f6c06ef34b8c2a"), looks := false }, kinds := [], alts := [], laidByText := true, laidKinds := [.funcs], laidTests := true, laidLooks := .later }
def FairwayMoreUptoCardSaid : Prop := Claim7.holds Tryd.pinned (.plain (OpenSpec.upto fairwayMoreSpec)) fairwayMoreUptoCard

/-- THE SECOND FORM's CARD OF 'prowlaw04.FairwayShorter'. -/
def fairwayShorterUptoCard : Claim7 := { stood := { row := fairwayShorterUptoRow, standIns := [], harness := (true, "ef392e97b162526d93bd78dba9d83a08df591b02bb2d0549a2f6c06ef34b8c2a"), looks := false }, kinds := [], alts := [], laidByText := true, laidKinds := [.funcs], laidTests := true, laidLooks := .later }
def FairwayShorterUptoCardSaid : Prop := Claim7.holds Tryd.pinned (.plain (OpenSpec.upto fairwayShorterSpec)) fairwayShorterUptoCard

/-- THE SECOND FORM's CARD OF 'prowlaw04.FairwayWrong'. -/
def fairwayWrongUptoCard : Claim7 := { stood := { row := fairwayWrongUptoRow, standIns := [], harness := (true, "ef392e97b162526d93bd78dba9d83a08df591b02bb2d0549a2f6c06ef34b8c2a"), looks := false }, kinds := [], alts := [], laidByText := true, laidKinds := [.funcs], laidTests := true, laidLooks := .later }
def FairwayWrongUptoCardSaid : Prop := Claim7.holds Tryd.pinned (.plain (OpenSpec.upto fairwayWrongSpec)) fairwayWrongUptoCard

/-- THE SECOND FORM's CARD OF 'prowlaw04.FairwayOne'. -/
def fairwayOneUptoCard : Claim7 := { stood := { row := fairwayOneUptoRow, standIns := [], harness := (true, "ef392e97b162526d93bd78dba9d83a08df591b02bb2d0549a2f6c06ef34b8c2a"), looks := false }, kinds := [], alts := [], laidByText := true, laidKinds := [.funcs], laidTests := true, laidLooks := .later }
def FairwayOneUptoCardSaid : Prop := Claim7.holds Tryd.pinned (.plain (OpenSpec.upto fairwayOneSpec)) fairwayOneUptoCard

/-- THE SECOND FORM's CARD OF 'prowlaw04.FairwayKnown'. -/
def fairwayKnownUptoCard : Claim7 := { stood := { row := fairwayKnownUptoRow, standIns := [], harness := (true, "ef392e97b162526d93bd78dba9d83a08df591b02bb2d0549a2f6c06ef34b8c2a"), looks := false }, kinds := [], alts := [], laidByText := true, laidKinds := [.funcs], laidTests := true, laidLooks := .later }
def FairwayKnownUptoCardSaid : Prop := Claim7.holds Tryd.pinned (.plain (OpenSpec.upto fairwayKnownSpec)) fairwayKnownUptoCard
end Rows
end Go.Proofs.YtamimgmoomcipaaDoor
