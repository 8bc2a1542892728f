/-
  NARROWER THAN 'FOR EVERY INPUT', by the rows' own cells (each row's printed sentence says how): DeckLists: laid · DeckStows: laid · DeckFewests: laid · DeckTrue: laid · DeckEnds: laid · DeckSides: laid · DeckStow: laid · DeckMost: laid · DeckFewest: laid · DeckNever: laid · DeckMore: laid · DeckWeigh: laid · DeckKnown: laid.
  DERIVED. THE GIVEN ROWS OF THIS SEAT. 13 by the template 'for every input the law returns true; each argument reads behind the call as it read before'; 0 by the template 'total and deterministic' (their statements: YthfnedbpmdkdjaaDoorTotals.lean).
  GIVEN WITH THE SEED: the statements are not yours to turn. If you find one false, say at which input.
  Laid BY PROGRAM, IN A SANDBOX (cutbox-rows.mjs): the forced cells as the released guide's own fill.sh prints them over the translation 9bcd8b1e8f6157d9… (all of the seat's roots in one cut). By AI agents, Wed Nov 11 2026. No macro, syntax, notation, axiom, sorry.
-/
import Derived.Test.YthfnedbpmdkdjaaDoorChecked
import GoSem.Claim
import GoSem.ClaimJoined
import GoSem.ClaimMapViews
import Derived.JoinedTies
import Derived.KernelRfl
namespace Go.Proofs.YthfnedbpmdkdjaaDoor
/- THE CELL 'sum', in the pinned program and in every row, IS THE sha256 OF THE DUMP (.gsa) THAT YthfnedbpmdkdjaaDoorProg.lean LOADS. Nothing in Lean hashes anything: it is a label: what it is worth is what the hold of that sum in a sandbox is worth. -/
noncomputable def Tryd.pinned : Pinned := { name := "ythfnedbpmdkdjaadoor", sum := "9bcd8b1e8f6157d9ddf6b7d6cf7b3bfc3b7bc9a752e355c5bed0d70071813f33", checked := Tryd.checked }
namespace Rows
def none {H : Type} : Left H := { results := [], args := [] }

/- WHAT THE LISTED PACKAGE-LEVEL VARIABLES READ AS WHEN THE CALL BEGINS. Each datum BY PROGRAM (the guide's laid-datum.mjs) off the statement by which the dump's own 'gosem.cut.vars' lays the variable. In a bare row this is a premise. The card (YthfnedbpmdkdjaaDoorCards.lean) ties it to the program's text. -/
def laid_prow_deck_lanes {H : Type} : DataW H := .iface "func table" (.agg [.iface "func" (.lit (.string [40, 112, 114, 111, 119, 47, 100, 101, 99, 107, 46, 108, 105, 115, 116, 41, 46, 112, 111, 114, 116])), .iface "func" (.lit (.string [40, 112, 114, 111, 119, 47, 100, 101, 99, 107, 46, 108, 105, 115, 116, 41, 46, 109, 105, 100, 100, 108, 101])), .iface "func" (.lit (.string [40, 112, 114, 111, 119, 47, 100, 101, 99, 107, 46, 108, 105, 115, 116, 41, 46, 115, 116, 97, 114]))])
def laid_prow_deck_nobody {H : Type} : DataW H := .agg [.lit (.int .i64 (-1)), .lit (.int .i64 0)]

/-- 'prowlaw03.DeckLists': WHATEVER THE INPUT: true; the input reads as it did. -/
def deckListsSpec : ChangeSpec := { name := "deckLists", fn := fun _ => fun
  | [d1, d2] => { results := [.lit (.bool true)], args := [d1, d2] }
  | _ => none }
def deckListsRow : OpenClaim := { program := "ythfnedbpmdkdjaadoor", sum := "9bcd8b1e8f6157d9ddf6b7d6cf7b3bfc3b7bc9a752e355c5bed0d70071813f33", func := "prow/prowlaw03.DeckLists", spec := "deckLists", unfollowed := true, recurses := true, named := ["prow/deck.nobody", "prow/deck.lanes"], plainKeys := false, apart := false, laid := [("prow/deck.lanes", laid_prow_deck_lanes), ("prow/deck.nobody", laid_prow_deck_nobody)] }
def DeckListsSaid : Prop := deckListsRow.holds Tryd.pinned (OpenSpec.ofChange deckListsSpec)

/-- ITS FALSE NEIGHBOUR: 'it returns false'. Refute it at one input. -/
def deckListsWrong : ChangeSpec := { name := "deckLists", fn := fun _ => fun
  | [d1, d2] => { results := [.lit (.bool false)], args := [d1, d2] }
  | _ => none }
def DeckListsWrongFalsely : Prop := deckListsRow.holds Tryd.pinned (OpenSpec.ofChange deckListsWrong)

/-- 'prowlaw03.DeckStows': WHATEVER THE INPUT: true; the input reads as it did. -/
def deckStowsSpec : ChangeSpec := { name := "deckStows", fn := fun _ => fun
  | [d1, d2] => { results := [.lit (.bool true)], args := [d1, d2] }
  | _ => none }
def deckStowsRow : OpenClaim := { program := "ythfnedbpmdkdjaadoor", sum := "9bcd8b1e8f6157d9ddf6b7d6cf7b3bfc3b7bc9a752e355c5bed0d70071813f33", func := "prow/prowlaw03.DeckStows", spec := "deckStows", unfollowed := true, recurses := true, named := ["prow/deck.nobody", "prow/deck.lanes"], plainKeys := false, apart := false, laid := [("prow/deck.lanes", laid_prow_deck_lanes), ("prow/deck.nobody", laid_prow_deck_nobody)] }
def DeckStowsSaid : Prop := deckStowsRow.holds Tryd.pinned (OpenSpec.ofChange deckStowsSpec)

/-- ITS FALSE NEIGHBOUR: 'it returns false'. Refute it at one input. -/
def deckStowsWrong : ChangeSpec := { name := "deckStows", fn := fun _ => fun
  | [d1, d2] => { results := [.lit (.bool false)], args := [d1, d2] }
  | _ => none }
def DeckStowsWrongFalsely : Prop := deckStowsRow.holds Tryd.pinned (OpenSpec.ofChange deckStowsWrong)

/-- 'prowlaw03.DeckFewests': WHATEVER THE INPUT: true; the input reads as it did. -/
def deckFewestsSpec : ChangeSpec := { name := "deckFewests", fn := fun _ => fun
  | [d] => { results := [.lit (.bool true)], args := [d] }
  | _ => none }
def deckFewestsRow : OpenClaim := { program := "ythfnedbpmdkdjaadoor", sum := "9bcd8b1e8f6157d9ddf6b7d6cf7b3bfc3b7bc9a752e355c5bed0d70071813f33", func := "prow/prowlaw03.DeckFewests", spec := "deckFewests", unfollowed := true, recurses := true, named := ["prow/deck.nobody", "prow/deck.lanes"], plainKeys := false, apart := false, laid := [("prow/deck.lanes", laid_prow_deck_lanes), ("prow/deck.nobody", laid_prow_deck_nobody)] }
def DeckFewestsSaid : Prop := deckFewestsRow.holds Tryd.pinned (OpenSpec.ofChange deckFewestsSpec)

/-- ITS FALSE NEIGHBOUR: 'it returns false'. Refute it at one input. -/
def deckFewestsWrong : ChangeSpec := { name := "deckFewests", fn := fun _ => fun
  | [d] => { results := [.lit (.bool false)], args := [d] }
  | _ => none }
def DeckFewestsWrongFalsely : Prop := deckFewestsRow.holds Tryd.pinned (OpenSpec.ofChange deckFewestsWrong)

/-- 'prowlaw03.DeckTrue': WHATEVER THE INPUT: true; the input reads as it did. -/
def deckTrueSpec : ChangeSpec := { name := "deckTrue", fn := fun _ => fun
  | [d1, d2, d3] => { results := [.lit (.bool true)], args := [d1, d2, d3] }
  | _ => none }
def deckTrueRow : OpenClaim := { program := "ythfnedbpmdkdjaadoor", sum := "9bcd8b1e8f6157d9ddf6b7d6cf7b3bfc3b7bc9a752e355c5bed0d70071813f33", func := "prow/prowlaw03.DeckTrue", spec := "deckTrue", unfollowed := true, recurses := true, named := ["prow/deck.nobody", "prow/deck.lanes"], plainKeys := false, apart := false, laid := [("prow/deck.lanes", laid_prow_deck_lanes), ("prow/deck.nobody", laid_prow_deck_nobody)] }
def DeckTrueSaid : Prop := deckTrueRow.holds Tryd.pinned (OpenSpec.ofChange deckTrueSpec)

/-- ITS FALSE NEIGHBOUR: 'it returns false'. Refute it at one input. -/
def deckTrueWrong : ChangeSpec := { name := "deckTrue", fn := fun _ => fun
  | [d1, d2, d3] => { results := [.lit (.bool false)], args := [d1, d2, d3] }
  | _ => none }
def DeckTrueWrongFalsely : Prop := deckTrueRow.holds Tryd.pinned (OpenSpec.ofChange deckTrueWrong)

/-- 'prowlaw03.DeckEnds': WHATEVER THE INPUT: true; the input reads as it did. -/
def deckEndsSpec : ChangeSpec := { name := "deckEnds", fn := fun _ => fun
  | [d1, d2, d3] => { results := [.lit (.bool true)], args := [d1, d2, d3] }
  | _ => none }
def deckEndsRow : OpenClaim := { program := "ythfnedbpmdkdjaadoor", sum := "9bcd8b1e8f6157d9ddf6b7d6cf7b3bfc3b7bc9a752e355c5bed0d70071813f33", func := "prow/prowlaw03.DeckEnds", spec := "deckEnds", unfollowed := true, recurses := true, named := ["prow/deck.nobody", "prow/deck.lanes"], plainKeys := false, apart := false, laid := [("prow/deck.lanes", laid_prow_deck_lanes), ("prow/deck.nobody", laid_prow_deck_nobody)] }
def DeckEndsSaid : Prop := deckEndsRow.holds Tryd.pinned (OpenSpec.ofChange deckEndsSpec)

/-- ITS FALSE NEIGHBOUR: 'it returns false'. Refute it at one input. -/
def deckEndsWrong : ChangeSpec := { name := "deckEnds", fn := fun _ => fun
  | [d1, d2, d3] => { results := [.lit (.bool false)], args := [d1, d2, d3] }
  | _ => none }
def DeckEndsWrongFalsely : Prop := deckEndsRow.holds Tryd.pinned (OpenSpec.ofChange deckEndsWrong)

/-- 'prowlaw03.DeckSides': WHATEVER THE INPUT: true; the input reads as it did. -/
def deckSidesSpec : ChangeSpec := { name := "deckSides", fn := fun _ => fun
  | [d1, d2, d3] => { results := [.lit (.bool true)], args := [d1, d2, d3] }
  | _ => none }
def deckSidesRow : OpenClaim := { program := "ythfnedbpmdkdjaadoor", sum := "9bcd8b1e8f6157d9ddf6b7d6cf7b3bfc3b7bc9a752e355c5bed0d70071813f33", func := "prow/prowlaw03.DeckSides", spec := "deckSides", unfollowed := true, recurses := true, named := ["prow/deck.nobody", "prow/deck.lanes"], plainKeys := false, apart := false, laid := [("prow/deck.lanes", laid_prow_deck_lanes), ("prow/deck.nobody", laid_prow_deck_nobody)] }
def DeckSidesSaid : Prop := deckSidesRow.holds Tryd.pinned (OpenSpec.ofChange deckSidesSpec)

/-- ITS FALSE NEIGHBOUR: 'it returns false'. Refute it at one input. -/
def deckSidesWrong : ChangeSpec := { name := "deckSides", fn := fun _ => fun
  | [d1, d2, d3] => { results := [.lit (.bool false)], args := [d1, d2, d3] }
  | _ => none }
def DeckSidesWrongFalsely : Prop := deckSidesRow.holds Tryd.pinned (OpenSpec.ofChange deckSidesWrong)

/-- 'prowlaw03.DeckStow': WHATEVER THE INPUT: true; the input reads as it did. -/
def deckStowSpec : ChangeSpec := { name := "deckStow", fn := fun _ => fun
  | [d1, d2, d3] => { results := [.lit (.bool true)], args := [d1, d2, d3] }
  | _ => none }
def deckStowRow : OpenClaim := { program := "ythfnedbpmdkdjaadoor", sum := "9bcd8b1e8f6157d9ddf6b7d6cf7b3bfc3b7bc9a752e355c5bed0d70071813f33", func := "prow/prowlaw03.DeckStow", spec := "deckStow", unfollowed := true, recurses := true, named := ["prow/deck.nobody", "prow/deck.lanes"], plainKeys := false, apart := false, laid := [("prow/deck.lanes", laid_prow_deck_lanes), ("prow/deck.nobody", laid_prow_deck_nobody)] }
def DeckStowSaid : Prop := deckStowRow.holds Tryd.pinned (OpenSpec.ofChange deckStowSpec)

/-- ITS FALSE NEIGHBOUR: 'it returns false'. Refute it at one input. -/
def deckStowWrong : ChangeSpec := { name := "deckStow", fn := fun _ => fun
  | [d1, d2, d3] => { results := [.lit (.bool false)], args := [d1, d2, d3] }
  | _ => none }
def DeckStowWrongFalsely : Prop := deckStowRow.holds Tryd.pinned (OpenSpec.ofChange deckStowWrong)

/-- 'prowlaw03.DeckMost': WHATEVER THE INPUT: true; the input reads as it did. -/
def deckMostSpec : ChangeSpec := { name := "deckMost", fn := fun _ => fun
  | [d1, d2] => { results := [.lit (.bool true)], args := [d1, d2] }
  | _ => none }
def deckMostRow : OpenClaim := { program := "ythfnedbpmdkdjaadoor", sum := "9bcd8b1e8f6157d9ddf6b7d6cf7b3bfc3b7bc9a752e355c5bed0d70071813f33", func := "prow/prowlaw03.DeckMost", spec := "deckMost", unfollowed := true, recurses := true, named := ["prow/deck.nobody", "prow/deck.lanes"], plainKeys := false, apart := false, laid := [("prow/deck.lanes", laid_prow_deck_lanes), ("prow/deck.nobody", laid_prow_deck_nobody)] }
def DeckMostSaid : Prop := deckMostRow.holds Tryd.pinned (OpenSpec.ofChange deckMostSpec)

/-- ITS FALSE NEIGHBOUR: 'it returns false'. Refute it at one input. -/
def deckMostWrong : ChangeSpec := { name := "deckMost", fn := fun _ => fun
  | [d1, d2] => { results := [.lit (.bool false)], args := [d1, d2] }
  | _ => none }
def DeckMostWrongFalsely : Prop := deckMostRow.holds Tryd.pinned (OpenSpec.ofChange deckMostWrong)

/-- 'prowlaw03.DeckFewest': WHATEVER THE INPUT: true; the input reads as it did. -/
def deckFewestSpec : ChangeSpec := { name := "deckFewest", fn := fun _ => fun
  | [d1, d2] => { results := [.lit (.bool true)], args := [d1, d2] }
  | _ => none }
def deckFewestRow : OpenClaim := { program := "ythfnedbpmdkdjaadoor", sum := "9bcd8b1e8f6157d9ddf6b7d6cf7b3bfc3b7bc9a752e355c5bed0d70071813f33", func := "prow/prowlaw03.DeckFewest", spec := "deckFewest", unfollowed := true, recurses := true, named := ["prow/deck.nobody", "prow/deck.lanes"], plainKeys := false, apart := false, laid := [("prow/deck.lanes", laid_prow_deck_lanes), ("prow/deck.nobody", laid_prow_deck_nobody)] }
def DeckFewestSaid : Prop := deckFewestRow.holds Tryd.pinned (OpenSpec.ofChange deckFewestSpec)

/-- ITS FALSE NEIGHBOUR: 'it returns false'. Refute it at one input. -/
def deckFewestWrong : ChangeSpec := { name := "deckFewest", fn := fun _ => fun
  | [d1, d2] => { results := [.lit (.bool false)], args := [d1, d2] }
  | _ => none }
def DeckFewestWrongFalsely : Prop := deckFewestRow.holds Tryd.pinned (OpenSpec.ofChange deckFewestWrong)

/-- 'prowlaw03.DeckNever': WHATEVER THE INPUT: true; the input reads as it did. -/
def deckNeverSpec : ChangeSpec := { name := "deckNever", fn := fun _ => fun
  | [d1, d2] => { results := [.lit (.bool true)], args := [d1, d2] }
  | _ => none }
def deckNeverRow : OpenClaim := { program := "ythfnedbpmdkdjaadoor", sum := "9bcd8b1e8f6157d9ddf6b7d6cf7b3bfc3b7bc9a752e355c5bed0d70071813f33", func := "prow/prowlaw03.DeckNever", spec := "deckNever", unfollowed := true, recurses := true, named := ["prow/deck.nobody", "prow/deck.lanes"], plainKeys := false, apart := false, laid := [("prow/deck.lanes", laid_prow_deck_lanes), ("prow/deck.nobody", laid_prow_deck_nobody)] }
def DeckNeverSaid : Prop := deckNeverRow.holds Tryd.pinned (OpenSpec.ofChange deckNeverSpec)

/-- ITS FALSE NEIGHBOUR: 'it returns false'. Refute it at one input. -/
def deckNeverWrong : ChangeSpec := { name := "deckNever", fn := fun _ => fun
  | [d1, d2] => { results := [.lit (.bool false)], args := [d1, d2] }
  | _ => none }
def DeckNeverWrongFalsely : Prop := deckNeverRow.holds Tryd.pinned (OpenSpec.ofChange deckNeverWrong)

/-- 'prowlaw03.DeckMore': WHATEVER THE INPUT: true; the input reads as it did. -/
def deckMoreSpec : ChangeSpec := { name := "deckMore", fn := fun _ => fun
  | [d1, d2] => { results := [.lit (.bool true)], args := [d1, d2] }
  | _ => none }
def deckMoreRow : OpenClaim := { program := "ythfnedbpmdkdjaadoor", sum := "9bcd8b1e8f6157d9ddf6b7d6cf7b3bfc3b7bc9a752e355c5bed0d70071813f33", func := "prow/prowlaw03.DeckMore", spec := "deckMore", unfollowed := true, recurses := true, named := ["prow/deck.nobody", "prow/deck.lanes"], plainKeys := false, apart := false, laid := [("prow/deck.lanes", laid_prow_deck_lanes), ("prow/deck.nobody", laid_prow_deck_nobody)] }
def DeckMoreSaid : Prop := deckMoreRow.holds Tryd.pinned (OpenSpec.ofChange deckMoreSpec)

/-- ITS FALSE NEIGHBOUR: 'it returns false'. Refute it at one input. -/
def deckMoreWrong : ChangeSpec := { name := "deckMore", fn := fun _ => fun
  | [d1, d2] => { results := [.lit (.bool false)], args := [d1, d2] }
  | _ => none }
def DeckMoreWrongFalsely : Prop := deckMoreRow.holds Tryd.pinned (OpenSpec.ofChange deckMoreWrong)

/-- 'prowlaw03.DeckWeigh': WHATEVER THE INPUT: true; the input reads as it did. -/
def deckWeighSpec : ChangeSpec := { name := "deckWeigh", fn := fun _ => fun
  | [d1, d2] => { results := [.lit (.bool true)], args := [d1, d2] }
  | _ => none }
def deckWeighRow : OpenClaim := { program := "ythfnedbpmdkdjaadoor", sum := "9bcd8b1e8f6157d9ddf6b7d6cf7b3bfc3b7bc9a752e355c5bed0d70071813f33", func := "prow/prowlaw03.DeckWeigh", spec := "deckWeigh", unfollowed := true, recurses := true, named := ["prow/deck.nobody", "prow/deck.lanes"], plainKeys := false, apart := false, laid := [("prow/deck.lanes", laid_prow_deck_lanes), ("prow/deck.nobody", laid_prow_deck_nobody)] }
def DeckWeighSaid : Prop := deckWeighRow.holds Tryd.pinned (OpenSpec.ofChange deckWeighSpec)

/-- ITS FALSE NEIGHBOUR: 'it returns false'. Refute it at one input. -/
def deckWeighWrong : ChangeSpec := { name := "deckWeigh", fn := fun _ => fun
  | [d1, d2] => { results := [.lit (.bool false)], args := [d1, d2] }
  | _ => none }
def DeckWeighWrongFalsely : Prop := deckWeighRow.holds Tryd.pinned (OpenSpec.ofChange deckWeighWrong)

/-- 'prowlaw03.DeckKnown': WHATEVER THE INPUT: true; the input reads as it did. -/
def deckKnownSpec : ChangeSpec := { name := "deckKnown", fn := fun _ => fun
  | [] => { results := [.lit (.bool true)], args := [] }
  | _ => none }
def deckKnownRow : OpenClaim := { program := "ythfnedbpmdkdjaadoor", sum := "9bcd8b1e8f6157d9ddf6b7d6cf7b3bfc3b7bc9a752e355c5bed0d70071813f33", func := "prow/prowlaw03.DeckKnown", spec := "deckKnown", unfollowed := true, recurses := true, named := ["prow/deck.nobody", "prow/deck.lanes"], plainKeys := false, apart := false, laid := [("prow/deck.lanes", laid_prow_deck_lanes), ("prow/deck.nobody", laid_prow_deck_nobody)] }
def DeckKnownSaid : Prop := deckKnownRow.holds Tryd.pinned (OpenSpec.ofChange deckKnownSpec)

/-- ITS FALSE NEIGHBOUR: 'it returns false'. Refute it at one input. -/
def deckKnownWrong : ChangeSpec := { name := "deckKnown", fn := fun _ => fun
  | [] => { results := [.lit (.bool false)], args := [] }
  | _ => none }
def DeckKnownWrongFalsely : Prop := deckKnownRow.holds Tryd.pinned (OpenSpec.ofChange deckKnownWrong)

/- THE SECOND FORM. 'bulk': how many values and letters a reading holds, each counted each time it is reached (what is shared counts as often as it is met; a slice's spare places count too). A statement '..UptoSaid' is the law's where the arguments, and the package variables that the reading takes, are together of bulk at most 1048576: NARROWER than '..Said'. Prove '..Said' where nothing that the law and all that it calls make is longer than what came in: it says more and counts as full. Else prove '..UptoSaid'. A law counts once. -/
mutual
def uptoBulk {H : Type} : DataW H → Nat
  | .lit (.string bytes) => bytes.length + 1
  | .lit _ => 1
  | .nil => 1
  | .ptr d => uptoBulk d + 1
  | .slice elems spare => uptoBulkAll elems + uptoBulkAll spare + 1
  | .agg parts => uptoBulkAll parts + 1
  | .iface _ d => uptoBulk d + 1
  | .map entries => uptoBulkEntries entries + 1
  | .held _ => 1
def uptoBulkAll {H : Type} : List (DataW H) → Nat
  | [] => 0
  | d :: r => uptoBulk d + uptoBulkAll r
def uptoBulkEntries {H : Type} : List (Lit × DataW H) → Nat
  | [] => 0
  | x :: r => uptoBulkEntry x + uptoBulkEntries r
def uptoBulkEntry {H : Type} : Lit × DataW H → Nat
  | (.string bytes, d) => bytes.length + uptoBulk d + 1
  | (_, d) => uptoBulk d + 1
 end
def uptoSmall : (H : Type) → List (DataW H) → Bool := fun _ ds => decide (uptoBulkAll ds ≤ 1048576)
def OpenSpec.upto (s : _root_.Go.ChangeSpec) : _root_.Go.OpenSpec := { _root_.Go.OpenSpec.ofChange s with cond := some uptoSmall }

/-- 'prowlaw03.DeckLists', WHERE WHAT IT READS IS OF BULK AT MOST 1048576: true; the input reads as it did. -/
def deckListsUptoRow : OpenClaim := { program := "ythfnedbpmdkdjaadoor", sum := "9bcd8b1e8f6157d9ddf6b7d6cf7b3bfc3b7bc9a752e355c5bed0d70071813f33", func := "prow/prowlaw03.DeckLists", spec := "deckLists", unfollowed := true, recurses := true, named := ["prow/deck.nobody", "prow/deck.lanes"], plainKeys := false, apart := false, laid := [("prow/deck.lanes", laid_prow_deck_lanes), ("prow/deck.nobody", laid_prow_deck_nobody)], narrowed := true }
def DeckListsUptoSaid : Prop := deckListsUptoRow.holds Tryd.pinned (OpenSpec.upto deckListsSpec)

/-- 'prowlaw03.DeckStows', WHERE WHAT IT READS IS OF BULK AT MOST 1048576: true; the input reads as it did. -/
def deckStowsUptoRow : OpenClaim := { program := "ythfnedbpmdkdjaadoor", sum := "9bcd8b1e8f6157d9ddf6b7d6cf7b3bfc3b7bc9a752e355c5bed0d70071813f33", func := "prow/prowlaw03.DeckStows", spec := "deckStows", unfollowed := true, recurses := true, named := ["prow/deck.nobody", "prow/deck.lanes"], plainKeys := false, apart := false, laid := [("prow/deck.lanes", laid_prow_deck_lanes), ("prow/deck.nobody", laid_prow_deck_nobody)], narrowed := true }
def DeckStowsUptoSaid : Prop := deckStowsUptoRow.holds Tryd.pinned (OpenSpec.upto deckStowsSpec)

/-- 'prowlaw03.DeckFewests', WHERE WHAT IT READS IS OF BULK AT MOST 1048576: true; the input reads as it did. -/
def deckFewestsUptoRow : OpenClaim := { program := "ythfnedbpmdkdjaadoor", sum := "9bcd8b1e8f6157d9ddf6b7d6cf7b3bfc3b7bc9a752e355c5bed0d70071813f33", func := "prow/prowlaw03.DeckFewests", spec := "deckFewests", unfollowed := true, recurses := true, named := ["prow/deck.nobody", "prow/deck.lanes"], plainKeys := false, apart := false, laid := [("prow/deck.lanes", laid_prow_deck_lanes), ("prow/deck.nobody", laid_prow_deck_nobody)], narrowed := true }
def DeckFewestsUptoSaid : Prop := deckFewestsUptoRow.holds Tryd.pinned (OpenSpec.upto deckFewestsSpec)

/-- 'prowlaw03.DeckTrue', WHERE WHAT IT READS IS OF BULK AT MOST 1048576: true; the input reads as it did. -/
def deckTrueUptoRow : OpenClaim := { program := "ythfnedbpmdkdjaadoor", sum := "9bcd8b1e8f6157d9ddf6b7d6cf7b3bfc3b7bc9a752e355c5bed0d70071813f33", func := "prow/prowlaw03.DeckTrue", spec := "deckTrue", unfollowed := true, recurses := true, named := ["prow/deck.nobody", "prow/deck.lanes"], plainKeys := false, apart := false, laid := [("prow/deck.lanes", laid_prow_deck_lanes), ("prow/deck.nobody", laid_prow_deck_nobody)], narrowed := true }
def DeckTrueUptoSaid : Prop := deckTrueUptoRow.holds Tryd.pinned (OpenSpec.upto deckTrueSpec)

/-- 'prowlaw03.DeckEnds', WHERE WHAT IT READS IS OF BULK AT MOST 1048576: true; the input reads as it did. -/
def deckEndsUptoRow : OpenClaim := { program := "ythfnedbpmdkdjaadoor", sum := "9bcd8b1e8f6157d9ddf6b7d6cf7b3bfc3b7bc9a752e355c5bed0d70071813f33", func := "prow/prowlaw03.DeckEnds", spec := "deckEnds", unfollowed := true, recurses := true, named := ["prow/deck.nobody", "prow/deck.lanes"], plainKeys := false, apart := false, laid := [("prow/deck.lanes", laid_prow_deck_lanes), ("prow/deck.nobody", laid_prow_deck_nobody)], narrowed := true }
def DeckEndsUptoSaid : Prop := deckEndsUptoRow.holds Tryd.pinned (OpenSpec.upto deckEndsSpec)

/-- 'prowlaw03.DeckSides', WHERE WHAT IT READS IS OF BULK AT MOST 1048576: true; the input reads as it did. -/
def deckSidesUptoRow : OpenClaim := { program := "ythfnedbpmdkdjaadoor", sum := "9bcd8b1e8f6157d9ddf6b7d6cf7b3bfc3b7bc9a752e355c5bed0d70071813f33", func := "prow/prowlaw03.DeckSides", spec := "deckSides", unfollowed := true, recurses := true, named := ["prow/deck.nobody", "prow/deck.lanes"], plainKeys := false, apart := false, laid := [("prow/deck.lanes", laid_prow_deck_lanes), ("prow/deck.nobody", laid_prow_deck_nobody)], narrowed := true }
def DeckSidesUptoSaid : Prop := deckSidesUptoRow.holds Tryd.pinned (OpenSpec.upto deckSidesSpec)

/-- 'prowlaw03.DeckStow', WHERE WHAT IT READS IS OF BULK AT MOST 1048576: true; the input reads as it did. -/
def deckStowUptoRow : OpenClaim := { program := "ythfnedbpmdkdjaadoor", sum := "9bcd8b1e8f6157d9ddf6b7d6cf7b3bfc3b7bc9a752e355c5bed0d70071813f33", func := "prow/prowlaw03.DeckStow", spec := "deckStow", unfollowed := true, recurses := true, named := ["prow/deck.nobody", "prow/deck.lanes"], plainKeys := false, apart := false, laid := [("prow/deck.lanes", laid_prow_deck_lanes), ("prow/deck.nobody", laid_prow_deck_nobody)], narrowed := true }
def DeckStowUptoSaid : Prop := deckStowUptoRow.holds Tryd.pinned (OpenSpec.upto deckStowSpec)

/-- 'prowlaw03.DeckMost', WHERE WHAT IT READS IS OF BULK AT MOST 1048576: true; the input reads as it did. -/
def deckMostUptoRow : OpenClaim := { program := "ythfnedbpmdkdjaadoor", sum := "9bcd8b1e8f6157d9ddf6b7d6cf7b3bfc3b7bc9a752e355c5bed0d70071813f33", func := "prow/prowlaw03.DeckMost", spec := "deckMost", unfollowed := true, recurses := true, named := ["prow/deck.nobody", "prow/deck.lanes"], plainKeys := false, apart := false, laid := [("prow/deck.lanes", laid_prow_deck_lanes), ("prow/deck.nobody", laid_prow_deck_nobody)], narrowed := true }
def DeckMostUptoSaid : Prop := deckMostUptoRow.holds Tryd.pinned (OpenSpec.upto deckMostSpec)

/-- 'prowlaw03.DeckFewest', WHERE WHAT IT READS IS OF BULK AT MOST 1048576: true; the input reads as it did. -/
def deckFewestUptoRow : OpenClaim := { program := "ythfnedbpmdkdjaadoor", sum := "9bcd8b1e8f6157d9ddf6b7d6cf7b3bfc3b7bc9a752e355c5bed0d70071813f33", func := "prow/prowlaw03.DeckFewest", spec := "deckFewest", unfollowed := true, recurses := true, named := ["prow/deck.nobody", "prow/deck.lanes"], plainKeys := false, apart := false, laid := [("prow/deck.lanes", laid_prow_deck_lanes), ("prow/deck.nobody", laid_prow_deck_nobody)], narrowed := true }
def DeckFewestUptoSaid : Prop := deckFewestUptoRow.holds Tryd.pinned (OpenSpec.upto deckFewestSpec)

/-- 'prowlaw03.DeckNever', WHERE WHAT IT READS IS OF BULK AT MOST 1048576: true; the input reads as it did. -/
def deckNeverUptoRow : OpenClaim := { program := "ythfnedbpmdkdjaadoor", sum := "9bcd8b1e8f6157d9ddf6b7d6cf7b3bfc3b7bc9a752e355c5bed0d70071813f33", func := "prow/prowlaw03.DeckNever", spec := "deckNever", unfollowed := true, recurses := true, named := ["prow/deck.nobody", "prow/deck.lanes"], plainKeys := false, apart := false, laid := [("prow/deck.lanes", laid_prow_deck_lanes), ("prow/deck.nobody", laid_prow_deck_nobody)], narrowed := true }
def DeckNeverUptoSaid : Prop := deckNeverUptoRow.holds Tryd.pinned (OpenSpec.upto deckNeverSpec)

/-- 'prowlaw03.DeckMore', WHERE WHAT IT READS IS OF BULK AT MOST 1048576: true; the input reads as it did. -/
def deckMoreUptoRow : OpenClaim := { program := "ythfnedbpmdkdjaadoor", sum := "9bcd8b1e8f6157d9ddf6b7d6cf7b3bfc3b7bc9a752e355c5bed0d70071813f33", func := "prow/prowlaw03.DeckMore", spec := "deckMore", unfollowed := true, recurses := true, named := ["prow/deck.nobody", "prow/deck.lanes"], plainKeys := false, apart := false, laid := [("prow/deck.lanes", laid_prow_deck_lanes), ("prow/deck.nobody", laid_prow_deck_nobody)], narrowed := true }
def DeckMoreUptoSaid : Prop := deckMoreUptoRow.holds Tryd.pinned (OpenSpec.upto deckMoreSpec)

/-- 'prowlaw03.DeckWeigh', WHERE WHAT IT READS IS OF BULK AT MOST 1048576: true; the input reads as it did. -/
def deckWeighUptoRow : OpenClaim := { program := "ythfnedbpmdkdjaadoor", sum := "9bcd8b1e8f6157d9ddf6b7d6cf7b3bfc3b7bc9a752e355c5bed0d70071813f33", func := "prow/prowlaw03.DeckWeigh", spec := "deckWeigh", unfollowed := true, recurses := true, named := ["prow/deck.nobody", "prow/deck.lanes"], plainKeys := false, apart := false, laid := [("prow/deck.lanes", laid_prow_deck_lanes), ("prow/deck.nobody", laid_prow_deck_nobody)], narrowed := true }
def DeckWeighUptoSaid : Prop := deckWeighUptoRow.holds Tryd.pinned (OpenSpec.upto deckWeighSpec)

/-- 'prowlaw03.DeckKnown', WHERE WHAT IT READS IS OF BULK AT MOST 1048576: true; the input reads as it did. -/
def deckKnownUptoRow : OpenClaim := { program := "ythfnedbpmdkdjaadoor", sum := "9bcd8b1e8f6157d9ddf6b7d6cf7b3bfc3b7bc9a752e355c5bed0d70071813f33", func := "prow/prowlaw03.DeckKnown", spec := "deckKnown", unfollowed := true, recurses := true, named := ["prow/deck.nobody", "prow/deck.lanes"], plainKeys := false, apart := false, laid := [("prow/deck.lanes", laid_prow_deck_lanes), ("prow/deck.nobody", laid_prow_deck_nobody)], narrowed := true }
def DeckKnownUptoSaid : Prop := deckKnownUptoRow.holds Tryd.pinned (OpenSpec.upto deckKnownSpec)

end Rows
end Go.Proofs.YthfnedbpmdkdjaaDoor
