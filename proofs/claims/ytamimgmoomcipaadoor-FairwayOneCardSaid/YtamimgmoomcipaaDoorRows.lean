/-
  NARROWER THAN 'FOR EVERY INPUT', by the rows' own cells (each row's printed sentence says how): FairwayNears: laid · FairwayClears: laid · FairwayFrees: laid · FairwayTrue: laid · FairwayWhen: laid · FairwayMay: laid · FairwayNext: laid · FairwayMore: laid · FairwayShorter: laid · FairwayWrong: laid · FairwayOne: laid · FairwayKnown: laid.
  DERIVED. THE GIVEN ROWS OF THIS SEAT. 12 by the template 'for every input the law returns true; each argument reads behind the call as it read before'; 0 by the template 'total and deterministic' (their statements: YtamimgmoomcipaaDoorTotals.lean).
  GIVEN WITH THE SEED: the statements are not yours to turn. If you find one false, say at which input.
  Laid BY PROGRAM, IN A SANDBOX (cutbox-rows.mjs): the forced cells as the released guide's own fill.sh prints them over the translation e019518685963586… (all of the seat's roots in one cut). By AI agents, Wed Nov 11 2026. No macro, syntax, notation, axiom, sorry.
-/
import Derived.Test.YtamimgmoomcipaaDoorChecked
import GoSem.Claim
import GoSem.ClaimJoined
import GoSem.ClaimMapViews
import Derived.JoinedTies
import Derived.KernelRfl
namespace Go.Proofs.YtamimgmoomcipaaDoor
/- THE CELL 'sum', in the pinned program and in every row, IS THE sha256 OF THE DUMP (.gsa) THAT YtamimgmoomcipaaDoorProg.lean LOADS. Nothing in Lean hashes anything: it is a label: what it is worth is what the hold of that sum in a sandbox is worth. -/
noncomputable def Tryd.pinned : Pinned := { name := "ytamimgmoomcipaadoor", sum := "e019518685963586bb4b5d6d29b9e311a28a8818b9c2d84e0b31ae5d3f8a3653", checked := Tryd.checked }
namespace Rows
def none {H : Type} : Left H := { results := [], args := [] }

/- WHAT THE LISTED PACKAGE-LEVEL VARIABLES READ AS WHEN THE CALL BEGINS. Each datum BY PROGRAM (the guide's laid-datum.mjs) off the statement by which the dump's own 'gosem.cut.vars' lays the variable. In a bare row this is a premise. The card (YtamimgmoomcipaaDoorCards.lean) ties it to the program's text. -/
def laid_prow_fairway_asks {H : Type} : DataW H := .iface "func table" (.agg [.iface "func" (.lit (.string [40, 112, 114, 111, 119, 47, 102, 97, 105, 114, 119, 97, 121, 46, 98, 111, 111, 107, 41, 46, 115, 111, 109, 101])), .iface "func" (.lit (.string [40, 112, 114, 111, 119, 47, 102, 97, 105, 114, 119, 97, 121, 46, 98, 111, 111, 107, 41, 46, 101, 97, 99, 104]))])

/-- 'prowlaw04.FairwayNears': WHATEVER THE INPUT: true; the input reads as it did. -/
def fairwayNearsSpec : ChangeSpec := { name := "fairwayNears", fn := fun _ => fun
  | [d1, d2] => { results := [.lit (.bool true)], args := [d1, d2] }
  | _ => none }
def fairwayNearsRow : OpenClaim := { program := "ytamimgmoomcipaadoor", sum := "e019518685963586bb4b5d6d29b9e311a28a8818b9c2d84e0b31ae5d3f8a3653", func := "prow/prowlaw04.FairwayNears", spec := "fairwayNears", unfollowed := true, recurses := true, named := ["prow/fairway.asks"], plainKeys := false, apart := false, laid := [("prow/fairway.asks", laid_prow_fairway_asks)] }
def FairwayNearsSaid : Prop := fairwayNearsRow.holds Tryd.pinned (OpenSpec.ofChange fairwayNearsSpec)

/-- ITS FALSE NEIGHBOUR: 'it returns false'. Refute it at one input. -/
def fairwayNearsWrong : ChangeSpec := { name := "fairwayNears", fn := fun _ => fun
  | [d1, d2] => { results := [.lit (.bool false)], args := [d1, d2] }
  | _ => none }
def FairwayNearsWrongFalsely : Prop := fairwayNearsRow.holds Tryd.pinned (OpenSpec.ofChange fairwayNearsWrong)

/-- 'prowlaw04.FairwayClears': WHATEVER THE INPUT: true; the input reads as it did. -/
def fairwayClearsSpec : ChangeSpec := { name := "fairwayClears", fn := fun _ => fun
  | [d1, d2] => { results := [.lit (.bool true)], args := [d1, d2] }
  | _ => none }
def fairwayClearsRow : OpenClaim := { program := "ytamimgmoomcipaadoor", sum := "e019518685963586bb4b5d6d29b9e311a28a8818b9c2d84e0b31ae5d3f8a3653", func := "prow/prowlaw04.FairwayClears", spec := "fairwayClears", unfollowed := true, recurses := true, named := ["prow/fairway.asks"], plainKeys := false, apart := false, laid := [("prow/fairway.asks", laid_prow_fairway_asks)] }
def FairwayClearsSaid : Prop := fairwayClearsRow.holds Tryd.pinned (OpenSpec.ofChange fairwayClearsSpec)

/-- ITS FALSE NEIGHBOUR: 'it returns false'. Refute it at one input. -/
def fairwayClearsWrong : ChangeSpec := { name := "fairwayClears", fn := fun _ => fun
  | [d1, d2] => { results := [.lit (.bool false)], args := [d1, d2] }
  | _ => none }
def FairwayClearsWrongFalsely : Prop := fairwayClearsRow.holds Tryd.pinned (OpenSpec.ofChange fairwayClearsWrong)

/-- 'prowlaw04.FairwayFrees': WHATEVER THE INPUT: true; the input reads as it did. -/
def fairwayFreesSpec : ChangeSpec := { name := "fairwayFrees", fn := fun _ => fun
  | [d] => { results := [.lit (.bool true)], args := [d] }
  | _ => none }
def fairwayFreesRow : OpenClaim := { program := "ytamimgmoomcipaadoor", sum := "e019518685963586bb4b5d6d29b9e311a28a8818b9c2d84e0b31ae5d3f8a3653", func := "prow/prowlaw04.FairwayFrees", spec := "fairwayFrees", unfollowed := true, recurses := true, named := ["prow/fairway.asks"], plainKeys := false, apart := false, laid := [("prow/fairway.asks", laid_prow_fairway_asks)] }
def FairwayFreesSaid : Prop := fairwayFreesRow.holds Tryd.pinned (OpenSpec.ofChange fairwayFreesSpec)

/-- ITS FALSE NEIGHBOUR: 'it returns false'. Refute it at one input. -/
def fairwayFreesWrong : ChangeSpec := { name := "fairwayFrees", fn := fun _ => fun
  | [d] => { results := [.lit (.bool false)], args := [d] }
  | _ => none }
def FairwayFreesWrongFalsely : Prop := fairwayFreesRow.holds Tryd.pinned (OpenSpec.ofChange fairwayFreesWrong)

/-- 'prowlaw04.FairwayTrue': WHATEVER THE INPUT: true; the input reads as it did. -/
def fairwayTrueSpec : ChangeSpec := { name := "fairwayTrue", fn := fun _ => fun
  | [d1, d2, d3] => { results := [.lit (.bool true)], args := [d1, d2, d3] }
  | _ => none }
def fairwayTrueRow : OpenClaim := { program := "ytamimgmoomcipaadoor", sum := "e019518685963586bb4b5d6d29b9e311a28a8818b9c2d84e0b31ae5d3f8a3653", func := "prow/prowlaw04.FairwayTrue", spec := "fairwayTrue", unfollowed := true, recurses := true, named := ["prow/fairway.asks"], plainKeys := false, apart := false, laid := [("prow/fairway.asks", laid_prow_fairway_asks)] }
def FairwayTrueSaid : Prop := fairwayTrueRow.holds Tryd.pinned (OpenSpec.ofChange fairwayTrueSpec)

/-- ITS FALSE NEIGHBOUR: 'it returns false'. Refute it at one input. -/
def fairwayTrueWrong : ChangeSpec := { name := "fairwayTrue", fn := fun _ => fun
  | [d1, d2, d3] => { results := [.lit (.bool false)], args := [d1, d2, d3] }
  | _ => none }
def FairwayTrueWrongFalsely : Prop := fairwayTrueRow.holds Tryd.pinned (OpenSpec.ofChange fairwayTrueWrong)

/-- 'prowlaw04.FairwayWhen': WHATEVER THE INPUT: true; the input reads as it did. -/
def fairwayWhenSpec : ChangeSpec := { name := "fairwayWhen", fn := fun _ => fun
  | [d1, d2] => { results := [.lit (.bool true)], args := [d1, d2] }
  | _ => none }
def fairwayWhenRow : OpenClaim := { program := "ytamimgmoomcipaadoor", sum := "e019518685963586bb4b5d6d29b9e311a28a8818b9c2d84e0b31ae5d3f8a3653", func := "prow/prowlaw04.FairwayWhen", spec := "fairwayWhen", unfollowed := true, recurses := true, named := ["prow/fairway.asks"], plainKeys := false, apart := false, laid := [("prow/fairway.asks", laid_prow_fairway_asks)] }
def FairwayWhenSaid : Prop := fairwayWhenRow.holds Tryd.pinned (OpenSpec.ofChange fairwayWhenSpec)

/-- ITS FALSE NEIGHBOUR: 'it returns false'. Refute it at one input. -/
def fairwayWhenWrong : ChangeSpec := { name := "fairwayWhen", fn := fun _ => fun
  | [d1, d2] => { results := [.lit (.bool false)], args := [d1, d2] }
  | _ => none }
def FairwayWhenWrongFalsely : Prop := fairwayWhenRow.holds Tryd.pinned (OpenSpec.ofChange fairwayWhenWrong)

/-- 'prowlaw04.FairwayMay': WHATEVER THE INPUT: true; the input reads as it did. -/
def fairwayMaySpec : ChangeSpec := { name := "fairwayMay", fn := fun _ => fun
  | [d1, d2] => { results := [.lit (.bool true)], args := [d1, d2] }
  | _ => none }
def fairwayMayRow : OpenClaim := { program := "ytamimgmoomcipaadoor", sum := "e019518685963586bb4b5d6d29b9e311a28a8818b9c2d84e0b31ae5d3f8a3653", func := "prow/prowlaw04.FairwayMay", spec := "fairwayMay", unfollowed := true, recurses := true, named := ["prow/fairway.asks"], plainKeys := false, apart := false, laid := [("prow/fairway.asks", laid_prow_fairway_asks)] }
def FairwayMaySaid : Prop := fairwayMayRow.holds Tryd.pinned (OpenSpec.ofChange fairwayMaySpec)

/-- ITS FALSE NEIGHBOUR: 'it returns false'. Refute it at one input. -/
def fairwayMayWrong : ChangeSpec := { name := "fairwayMay", fn := fun _ => fun
  | [d1, d2] => { results := [.lit (.bool false)], args := [d1, d2] }
  | _ => none }
def FairwayMayWrongFalsely : Prop := fairwayMayRow.holds Tryd.pinned (OpenSpec.ofChange fairwayMayWrong)

/-- 'prowlaw04.FairwayNext': WHATEVER THE INPUT: true; the input reads as it did. -/
def fairwayNextSpec : ChangeSpec := { name := "fairwayNext", fn := fun _ => fun
  | [d1, d2] => { results := [.lit (.bool true)], args := [d1, d2] }
  | _ => none }
def fairwayNextRow : OpenClaim := { program := "ytamimgmoomcipaadoor", sum := "e019518685963586bb4b5d6d29b9e311a28a8818b9c2d84e0b31ae5d3f8a3653", func := "prow/prowlaw04.FairwayNext", spec := "fairwayNext", unfollowed := true, recurses := true, named := ["prow/fairway.asks"], plainKeys := false, apart := false, laid := [("prow/fairway.asks", laid_prow_fairway_asks)] }
def FairwayNextSaid : Prop := fairwayNextRow.holds Tryd.pinned (OpenSpec.ofChange fairwayNextSpec)

/-- ITS FALSE NEIGHBOUR: 'it returns false'. Refute it at one input. -/
def fairwayNextWrong : ChangeSpec := { name := "fairwayNext", fn := fun _ => fun
  | [d1, d2] => { results := [.lit (.bool false)], args := [d1, d2] }
  | _ => none }
def FairwayNextWrongFalsely : Prop := fairwayNextRow.holds Tryd.pinned (OpenSpec.ofChange fairwayNextWrong)

/-- 'prowlaw04.FairwayMore': WHATEVER THE INPUT: true; the input reads as it did. -/
def fairwayMoreSpec : ChangeSpec := { name := "fairwayMore", fn := fun _ => fun
  | [d1, d2, d3] => { results := [.lit (.bool true)], args := [d1, d2, d3] }
  | _ => none }
def fairwayMoreRow : OpenClaim := { program := "ytamimgmoomcipaadoor", sum := "e019518685963586bb4b5d6d29b9e311a28a8818b9c2d84e0b31ae5d3f8a3653", func := "prow/prowlaw04.FairwayMore", spec := "fairwayMore", unfollowed := true, recurses := true, named := ["prow/fairway.asks"], plainKeys := false, apart := false, laid := [("prow/fairway.asks", laid_prow_fairway_asks)] }
def FairwayMoreSaid : Prop := fairwayMoreRow.holds Tryd.pinned (OpenSpec.ofChange fairwayMoreSpec)

/-- ITS FALSE NEIGHBOUR: 'it returns false'. Refute it at one input. -/
def fairwayMoreWrong : ChangeSpec := { name := "fairwayMore", fn := fun _ => fun
  | [d1, d2, d3] => { results := [.lit (.bool false)], args := [d1, d2, d3] }
  | _ => none }
def FairwayMoreWrongFalsely : Prop := fairwayMoreRow.holds Tryd.pinned (OpenSpec.ofChange fairwayMoreWrong)

/-- 'prowlaw04.FairwayShorter': WHATEVER THE INPUT: true; the input reads as it did. -/
def fairwayShorterSpec : ChangeSpec := { name := "fairwayShorter", fn := fun _ => fun
  | [d1, d2] => { results := [.lit (.bool true)], args := [d1, d2] }
  | _ => none }
def fairwayShorterRow : OpenClaim := { program := "ytamimgmoomcipaadoor", sum := "e019518685963586bb4b5d6d29b9e311a28a8818b9c2d84e0b31ae5d3f8a3653", func := "prow/prowlaw04.FairwayShorter", spec := "fairwayShorter", unfollowed := true, recurses := true, named := ["prow/fairway.asks"], plainKeys := false, apart := false, laid := [("prow/fairway.asks", laid_prow_fairway_asks)] }
def FairwayShorterSaid : Prop := fairwayShorterRow.holds Tryd.pinned (OpenSpec.ofChange fairwayShorterSpec)

/-- ITS FALSE NEIGHBOUR: 'it returns false'. Refute it at one input. -/
def fairwayShorterWrong : ChangeSpec := { name := "fairwayShorter", fn := fun _ => fun
  | [d1, d2] => { results := [.lit (.bool false)], args := [d1, d2] }
  | _ => none }
def FairwayShorterWrongFalsely : Prop := fairwayShorterRow.holds Tryd.pinned (OpenSpec.ofChange fairwayShorterWrong)

/-- 'prowlaw04.FairwayWrong': WHATEVER THE INPUT: true; the input reads as it did. -/
def fairwayWrongSpec : ChangeSpec := { name := "fairwayWrong", fn := fun _ => fun
  | [d1, d2] => { results := [.lit (.bool true)], args := [d1, d2] }
  | _ => none }
def fairwayWrongRow : OpenClaim := { program := "ytamimgmoomcipaadoor", sum := "e019518685963586bb4b5d6d29b9e311a28a8818b9c2d84e0b31ae5d3f8a3653", func := "prow/prowlaw04.FairwayWrong", spec := "fairwayWrong", unfollowed := true, recurses := true, named := ["prow/fairway.asks"], plainKeys := false, apart := false, laid := [("prow/fairway.asks", laid_prow_fairway_asks)] }
def FairwayWrongSaid : Prop := fairwayWrongRow.holds Tryd.pinned (OpenSpec.ofChange fairwayWrongSpec)

/-- ITS FALSE NEIGHBOUR: 'it returns false'. Refute it at one input. -/
def fairwayWrongWrong : ChangeSpec := { name := "fairwayWrong", fn := fun _ => fun
  | [d1, d2] => { results := [.lit (.bool false)], args := [d1, d2] }
  | _ => none }
def FairwayWrongWrongFalsely : Prop := fairwayWrongRow.holds Tryd.pinned (OpenSpec.ofChange fairwayWrongWrong)

/-- 'prowlaw04.FairwayOne': WHATEVER THE INPUT: true; the input reads as it did. -/
def fairwayOneSpec : ChangeSpec := { name := "fairwayOne", fn := fun _ => fun
  | [d] => { results := [.lit (.bool true)], args := [d] }
  | _ => none }
def fairwayOneRow : OpenClaim := { program := "ytamimgmoomcipaadoor", sum := "e019518685963586bb4b5d6d29b9e311a28a8818b9c2d84e0b31ae5d3f8a3653", func := "prow/prowlaw04.FairwayOne", spec := "fairwayOne", unfollowed := true, recurses := true, named := ["prow/fairway.asks"], plainKeys := false, apart := false, laid := [("prow/fairway.asks", laid_prow_fairway_asks)] }
def FairwayOneSaid : Prop := fairwayOneRow.holds Tryd.pinned (OpenSpec.ofChange fairwayOneSpec)

/-- ITS FALSE NEIGHBOUR: 'it returns false'. Refute it at one input. -/
def fairwayOneWrong : ChangeSpec := { name := "fairwayOne", fn := fun _ => fun
  | [d] => { results := [.lit (.bool false)], args := [d] }
  | _ => none }
def FairwayOneWrongFalsely : Prop := fairwayOneRow.holds Tryd.pinned (OpenSpec.ofChange fairwayOneWrong)

/-- 'prowlaw04.FairwayKnown': WHATEVER THE INPUT: true; the input reads as it did. -/
def fairwayKnownSpec : ChangeSpec := { name := "fairwayKnown", fn := fun _ => fun
  | [] => { results := [.lit (.bool true)], args := [] }
  | _ => none }
def fairwayKnownRow : OpenClaim := { program := "ytamimgmoomcipaadoor", sum := "e019518685963586bb4b5d6d29b9e311a28a8818b9c2d84e0b31ae5d3f8a3653", func := "prow/prowlaw04.FairwayKnown", spec := "fairwayKnown", unfollowed := true, recurses := true, named := ["prow/fairway.asks"], plainKeys := false, apart := false, laid := [("prow/fairway.asks", laid_prow_fairway_asks)] }
def FairwayKnownSaid : Prop := fairwayKnownRow.holds Tryd.pinned (OpenSpec.ofChange fairwayKnownSpec)

/-- ITS FALSE NEIGHBOUR: 'it returns false'. Refute it at one input. -/
def fairwayKnownWrong : ChangeSpec := { name := "fairwayKnown", fn := fun _ => fun
  | [] => { results := [.lit (.bool false)], args := [] }
  | _ => none }
def FairwayKnownWrongFalsely : Prop := fairwayKnownRow.holds Tryd.pinned (OpenSpec.ofChange fairwayKnownWrong)

/- THE SECOND FORM. 'bulk': how many values and letters a reading holds, each counted each time it is reached (what is shared counts as often as it is met; a slice's spare places count too). A statement '..UptoSaid' is the law's where the arguments, and the package variables that the reading takes, are together of bulk at most 1048576: NARROWER than '..Said'. Prove '..Said' where nothing that the law and all that it calls make is longer than what came in: it says more and counts as full. Else prove '..UptoSaid'. A law counts once. -/
mutual
def uptoBulk {H : Type} : DataW H → Nat
  | .lit (.string bytes) => bytes.length + 1
  | .lit _ => 1
  | .nil => 1
  | .ptr d => uptoBulk d + 1
  | .slice elems spare => uptoBulkAll elems + uptoBulkAll spare + 1
  | .agg parts => uptoBulkAll parts + 1
  | .iface _ d => uptoBulk d + 1
  | .map entries => uptoBulkEntries entries + 1
  | .held _ => 1
def uptoBulkAll {H : Type} : List (DataW H) → Nat
  | [] => 0
  | d :: r => uptoBulk d + uptoBulkAll r
def uptoBulkEntries {H : Type} : List (Lit × DataW H) → Nat
  | [] => 0
  | x :: r => uptoBulkEntry x + uptoBulkEntries r
def uptoBulkEntry {H : Type} : Lit × DataW H → Nat
  | (.string bytes, d) => bytes.length + uptoBulk d + 1
  | (_, d) => uptoBulk d + 1
 end
def uptoSmall : (H : Type) → List (DataW H) → Bool := fun _ ds => decide (uptoBulkAll ds ≤ 1048576)
def OpenSpec.upto (s : _root_.Go.ChangeSpec) : _root_.Go.OpenSpec := { _root_.Go.OpenSpec.ofChange s with cond := some uptoSmall }

/-- 'prowlaw04.FairwayNears', WHERE WHAT IT READS IS OF BULK AT MOST 1048576: true; the input reads as it did. -/
def fairwayNearsUptoRow : OpenClaim := { program := "ytamimgmoomcipaadoor", sum := "e019518685963586bb4b5d6d29b9e311a28a8818b9c2d84e0b31ae5d3f8a3653", func := "prow/prowlaw04.FairwayNears", spec := "fairwayNears", unfollowed := true, recurses := true, named := ["prow/fairway.asks"], plainKeys := false, apart := false, laid := [("prow/fairway.asks", laid_prow_fairway_asks)], narrowed := true }
def FairwayNearsUptoSaid : Prop := fairwayNearsUptoRow.holds Tryd.pinned (OpenSpec.upto fairwayNearsSpec)

/-- 'prowlaw04.FairwayClears', WHERE WHAT IT READS IS OF BULK AT MOST 1048576: true; the input reads as it did. -/
def fairwayClearsUptoRow : OpenClaim := { program := "ytamimgmoomcipaadoor", sum := "e019518685963586bb4b5d6d29b9e311a28a8818b9c2d84e0b31ae5d3f8a3653", func := "prow/prowlaw04.FairwayClears", spec := "fairwayClears", unfollowed := true, recurses := true, named := ["prow/fairway.asks"], plainKeys := false, apart := false, laid := [("prow/fairway.asks", laid_prow_fairway_asks)], narrowed := true }
def FairwayClearsUptoSaid : Prop := fairwayClearsUptoRow.holds Tryd.pinned (OpenSpec.upto fairwayClearsSpec)

/-- 'prowlaw04.FairwayFrees', WHERE WHAT IT READS IS OF BULK AT MOST 1048576: true; the input reads as it did. -/
def fairwayFreesUptoRow : OpenClaim := { program := "ytamimgmoomcipaadoor", sum := "e019518685963586bb4b5d6d29b9e311a28a8818b9c2d84e0b31ae5d3f8a3653", func := "prow/prowlaw04.FairwayFrees", spec := "fairwayFrees", unfollowed := true, recurses := true, named := ["prow/fairway.asks"], plainKeys := false, apart := false, laid := [("prow/fairway.asks", laid_prow_fairway_asks)], narrowed := true }
def FairwayFreesUptoSaid : Prop := fairwayFreesUptoRow.holds Tryd.pinned (OpenSpec.upto fairwayFreesSpec)

/-- 'prowlaw04.FairwayTrue', WHERE WHAT IT READS IS OF BULK AT MOST 1048576: true; the input reads as it did. -/
def fairwayTrueUptoRow : OpenClaim := { program := "ytamimgmoomcipaadoor", sum := "e019518685963586bb4b5d6d29b9e311a28a8818b9c2d84e0b31ae5d3f8a3653", func := "prow/prowlaw04.FairwayTrue", spec := "fairwayTrue", unfollowed := true, recurses := true, named := ["prow/fairway.asks"], plainKeys := false, apart := false, laid := [("prow/fairway.asks", laid_prow_fairway_asks)], narrowed := true }
def FairwayTrueUptoSaid : Prop := fairwayTrueUptoRow.holds Tryd.pinned (OpenSpec.upto fairwayTrueSpec)

/-- 'prowlaw04.FairwayWhen', WHERE WHAT IT READS IS OF BULK AT MOST 1048576: true; the input reads as it did. -/
def fairwayWhenUptoRow : OpenClaim := { program := "ytamimgmoomcipaadoor", sum := "e019518685963586bb4b5d6d29b9e311a28a8818b9c2d84e0b31ae5d3f8a3653", func := "prow/prowlaw04.FairwayWhen", spec := "fairwayWhen", unfollowed := true, recurses := true, named := ["prow/fairway.asks"], plainKeys := false, apart := false, laid := [("prow/fairway.asks", laid_prow_fairway_asks)], narrowed := true }
def FairwayWhenUptoSaid : Prop := fairwayWhenUptoRow.holds Tryd.pinned (OpenSpec.upto fairwayWhenSpec)

/-- 'prowlaw04.FairwayMay', WHERE WHAT IT READS IS OF BULK AT MOST 1048576: true; the input reads as it did. -/
def fairwayMayUptoRow : OpenClaim := { program := "ytamimgmoomcipaadoor", sum := "e019518685963586bb4b5d6d29b9e311a28a8818b9c2d84e0b31ae5d3f8a3653", func := "prow/prowlaw04.FairwayMay", spec := "fairwayMay", unfollowed := true, recurses := true, named := ["prow/fairway.asks"], plainKeys := false, apart := false, laid := [("prow/fairway.asks", laid_prow_fairway_asks)], narrowed := true }
def FairwayMayUptoSaid : Prop := fairwayMayUptoRow.holds Tryd.pinned (OpenSpec.upto fairwayMaySpec)

/-- 'prowlaw04.FairwayNext', WHERE WHAT IT READS IS OF BULK AT MOST 1048576: true; the input reads as it did. -/
def fairwayNextUptoRow : OpenClaim := { program := "ytamimgmoomcipaadoor", sum := "e019518685963586bb4b5d6d29b9e311a28a8818b9c2d84e0b31ae5d3f8a3653", func := "prow/prowlaw04.FairwayNext", spec := "fairwayNext", unfollowed := true, recurses := true, named := ["prow/fairway.asks"], plainKeys := false, apart := false, laid := [("prow/fairway.asks", laid_prow_fairway_asks)], narrowed := true }
def FairwayNextUptoSaid : Prop := fairwayNextUptoRow.holds Tryd.pinned (OpenSpec.upto fairwayNextSpec)

/-- 'prowlaw04.FairwayMore', WHERE WHAT IT READS IS OF BULK AT MOST 1048576: true; the input reads as it did. -/
def fairwayMoreUptoRow : OpenClaim := { program := "ytamimgmoomcipaadoor", sum := "e019518685963586bb4b5d6d29b9e311a28a8818b9c2d84e0b31ae5d3f8a3653", func := "prow/prowlaw04.FairwayMore", spec := "fairwayMore", unfollowed := true, recurses := true, named := ["prow/fairway.asks"], plainKeys := false, apart := false, laid := [("prow/fairway.asks", laid_prow_fairway_asks)], narrowed := true }
def FairwayMoreUptoSaid : Prop := fairwayMoreUptoRow.holds Tryd.pinned (OpenSpec.upto fairwayMoreSpec)

/-- 'prowlaw04.FairwayShorter', WHERE WHAT IT READS IS OF BULK AT MOST 1048576: true; the input reads as it did. -/
def fairwayShorterUptoRow : OpenClaim := { program := "ytamimgmoomcipaadoor", sum := "e019518685963586bb4b5d6d29b9e311a28a8818b9c2d84e0b31ae5d3f8a3653", func := "prow/prowlaw04.FairwayShorter", spec := "fairwayShorter", unfollowed := true, recurses := true, named := ["prow/fairway.asks"], plainKeys := false, apart := false, laid := [("prow/fairway.asks", laid_prow_fairway_asks)], narrowed := true }
def FairwayShorterUptoSaid : Prop := fairwayShorterUptoRow.holds Tryd.pinned (OpenSpec.upto fairwayShorterSpec)

/-- 'prowlaw04.FairwayWrong', WHERE WHAT IT READS IS OF BULK AT MOST 1048576: true; the input reads as it did. -/
def fairwayWrongUptoRow : OpenClaim := { program := "ytamimgmoomcipaadoor", sum := "e019518685963586bb4b5d6d29b9e311a28a8818b9c2d84e0b31ae5d3f8a3653", func := "prow/prowlaw04.FairwayWrong", spec := "fairwayWrong", unfollowed := true, recurses := true, named := ["prow/fairway.asks"], plainKeys := false, apart := false, laid := [("prow/fairway.asks", laid_prow_fairway_asks)], narrowed := true }
def FairwayWrongUptoSaid : Prop := fairwayWrongUptoRow.holds Tryd.pinned (OpenSpec.upto fairwayWrongSpec)

/-- 'prowlaw04.FairwayOne', WHERE WHAT IT READS IS OF BULK AT MOST 1048576: true; the input reads as it did. -/
def fairwayOneUptoRow : OpenClaim := { program := "ytamimgmoomcipaadoor", sum := "e019518685963586bb4b5d6d29b9e311a28a8818b9c2d84e0b31ae5d3f8a3653", func := "prow/prowlaw04.FairwayOne", spec := "fairwayOne", unfollowed := true, recurses := true, named := ["prow/fairway.asks"], plainKeys := false, apart := false, laid := [("prow/fairway.asks", laid_prow_fairway_asks)], narrowed := true }
def FairwayOneUptoSaid : Prop := fairwayOneUptoRow.holds Tryd.pinned (OpenSpec.upto fairwayOneSpec)

/-- 'prowlaw04.FairwayKnown', WHERE WHAT IT READS IS OF BULK AT MOST 1048576: true; the input reads as it did. -/
def fairwayKnownUptoRow : OpenClaim := { program := "ytamimgmoomcipaadoor", sum := "e019518685963586bb4b5d6d29b9e311a28a8818b9c2d84e0b31ae5d3f8a3653", func := "prow/prowlaw04.FairwayKnown", spec := "fairwayKnown", unfollowed := true, recurses := true, named := ["prow/fairway.asks"], plainKeys := false, apart := false, laid := [("prow/fairway.asks", laid_prow_fairway_asks)], narrowed := true }
def FairwayKnownUptoSaid : Prop := fairwayKnownUptoRow.holds Tryd.pinned (OpenSpec.upto fairwayKnownSpec)

end Rows
end Go.Proofs.YtamimgmoomcipaaDoor
