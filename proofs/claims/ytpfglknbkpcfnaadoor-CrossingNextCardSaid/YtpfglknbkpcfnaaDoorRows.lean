/-
  NARROWER THAN 'FOR EVERY INPUT', by the rows' own cells (each row's printed sentence says how): CrossingLeast: laid · CrossingNext: laid · CrossingPast: laid · CrossingPlan: laid · CrossingBefore: laid · CrossingMany: laid · CrossingLate: laid · CrossingShip: laid · CrossingMore: laid · CrossingKnown: laid.
  DERIVED. THE GIVEN ROWS OF THIS SEAT. 10 by the template 'for every input the law returns true; each argument reads behind the call as it read before'; 0 by the template 'total and deterministic' (their statements: YtpfglknbkpcfnaaDoorTotals.lean).
  GIVEN WITH THE SEED: the statements are not yours to turn. If you find one false, say at which input.
  Laid BY PROGRAM, IN A SANDBOX (cutbox-rows.mjs): the forced cells as the released guide's own fill.sh prints them over the translation 6bf3ee73fd837c40… (all of the seat's roots in one cut). By AI agents, Wed Nov 11 2026. No macro, syntax, notation, axiom, sorry.
-/
import Derived.Test.YtpfglknbkpcfnaaDoorChecked
import GoSem.Claim
import GoSem.ClaimJoined
import GoSem.ClaimMapViews
import Derived.JoinedTies
import Derived.KernelRfl
namespace Go.Proofs.YtpfglknbkpcfnaaDoor
/- THE CELL 'sum', in the pinned program and in every row, IS THE sha256 OF THE DUMP (.gsa) THAT YtpfglknbkpcfnaaDoorProg.lean LOADS. Nothing in Lean hashes anything: it is a label: what it is worth is what the hold of that sum in a sandbox is worth. -/
noncomputable def Tryd.pinned : Pinned := { name := "ytpfglknbkpcfnaadoor", sum := "6bf3ee73fd837c40c93f588a8e6563fb8d962cb5d9ec34ef7cd7ffaa6c8599f1", checked := Tryd.checked }
namespace Rows
def none {H : Type} : Left H := { results := [], args := [] }

/- WHAT THE LISTED PACKAGE-LEVEL VARIABLES READ AS WHEN THE CALL BEGINS. Each datum BY PROGRAM (the guide's laid-datum.mjs) off the statement by which the dump's own 'gosem.cut.vars' lays the variable. In a bare row this is a premise. The card (YtpfglknbkpcfnaaDoorCards.lean) ties it to the program's text. -/
def laid_prow_fairway_asks {H : Type} : DataW H := .iface "func table" (.agg [.iface "func" (.lit (.string [40, 112, 114, 111, 119, 47, 102, 97, 105, 114, 119, 97, 121, 46, 98, 111, 111, 107, 41, 46, 115, 111, 109, 101])), .iface "func" (.lit (.string [40, 112, 114, 111, 119, 47, 102, 97, 105, 114, 119, 97, 121, 46, 98, 111, 111, 107, 41, 46, 101, 97, 99, 104]))])
def laid_prow_landing_nowhere {H : Type} : DataW H := .agg [.lit (.int .i64 (-1)), .lit (.int .i64 (-1))]
def laid_prow_landing_unknown {H : Type} : DataW H := .agg [.lit (.int .i64 (-41)), .lit (.int .i64 (-41))]
def laid_prow_landing_asks {H : Type} : DataW H := .iface "func table" (.agg [.iface "func" (.lit (.string [40, 112, 114, 111, 119, 47, 108, 97, 110, 100, 105, 110, 103, 46, 98, 111, 111, 107, 41, 46, 109, 97, 121])), .iface "func" (.lit (.string [40, 112, 114, 111, 119, 47, 108, 97, 110, 100, 105, 110, 103, 46, 98, 111, 111, 107, 41, 46, 109, 117, 115, 116]))])
def laid_prow_crossing_nowhere {H : Type} : DataW H := .agg [.lit (.int .i64 (-1)), .lit (.int .i64 0)]
def laid_prow_crossing_sides {H : Type} : DataW H := .iface "func table" (.agg [.iface "func" (.lit (.string [40, 112, 114, 111, 119, 47, 99, 114, 111, 115, 115, 105, 110, 103, 46, 98, 111, 111, 107, 41, 46, 108, 101, 97, 118, 101, 115])), .iface "func" (.lit (.string [40, 112, 114, 111, 119, 47, 99, 114, 111, 115, 115, 105, 110, 103, 46, 98, 111, 111, 107, 41, 46, 97, 114, 114, 105, 118, 101, 115]))])

/-- 'prowlaw09.CrossingLeast': WHATEVER THE INPUT: true; the input reads as it did. -/
def crossingLeastSpec : ChangeSpec := { name := "crossingLeast", fn := fun _ => fun
  | [d1, d2] => { results := [.lit (.bool true)], args := [d1, d2] }
  | _ => none }
def crossingLeastRow : OpenClaim := { program := "ytpfglknbkpcfnaadoor", sum := "6bf3ee73fd837c40c93f588a8e6563fb8d962cb5d9ec34ef7cd7ffaa6c8599f1", func := "prow/prowlaw09.CrossingLeast", spec := "crossingLeast", unfollowed := true, recurses := true, named := ["prow/landing.nowhere", "prow/landing.unknown", "prow/crossing.nowhere", "prow/fairway.asks", "prow/crossing.sides", "prow/landing.asks"], plainKeys := false, apart := false, laid := [("prow/fairway.asks", laid_prow_fairway_asks), ("prow/landing.nowhere", laid_prow_landing_nowhere), ("prow/landing.unknown", laid_prow_landing_unknown), ("prow/landing.asks", laid_prow_landing_asks), ("prow/crossing.nowhere", laid_prow_crossing_nowhere), ("prow/crossing.sides", laid_prow_crossing_sides)] }
def CrossingLeastSaid : Prop := crossingLeastRow.holds Tryd.pinned (OpenSpec.ofChange crossingLeastSpec)

/-- ITS FALSE NEIGHBOUR: 'it returns false'. Refute it at one input. -/
def crossingLeastWrong : ChangeSpec := { name := "crossingLeast", fn := fun _ => fun
  | [d1, d2] => { results := [.lit (.bool false)], args := [d1, d2] }
  | _ => none }
def CrossingLeastWrongFalsely : Prop := crossingLeastRow.holds Tryd.pinned (OpenSpec.ofChange crossingLeastWrong)

/-- 'prowlaw09.CrossingNext': WHATEVER THE INPUT: true; the input reads as it did. -/
def crossingNextSpec : ChangeSpec := { name := "crossingNext", fn := fun _ => fun
  | [d1, d2] => { results := [.lit (.bool true)], args := [d1, d2] }
  | _ => none }
def crossingNextRow : OpenClaim := { program := "ytpfglknbkpcfnaadoor", sum := "6bf3ee73fd837c40c93f588a8e6563fb8d962cb5d9ec34ef7cd7ffaa6c8599f1", func := "prow/prowlaw09.CrossingNext", spec := "crossingNext", unfollowed := true, recurses := true, named := ["prow/landing.nowhere", "prow/landing.unknown", "prow/crossing.nowhere", "prow/fairway.asks", "prow/crossing.sides", "prow/landing.asks"], plainKeys := false, apart := false, laid := [("prow/fairway.asks", laid_prow_fairway_asks), ("prow/landing.nowhere", laid_prow_landing_nowhere), ("prow/landing.unknown", laid_prow_landing_unknown), ("prow/landing.asks", laid_prow_landing_asks), ("prow/crossing.nowhere", laid_prow_crossing_nowhere), ("prow/crossing.sides", laid_prow_crossing_sides)] }
def CrossingNextSaid : Prop := crossingNextRow.holds Tryd.pinned (OpenSpec.ofChange crossingNextSpec)

/-- ITS FALSE NEIGHBOUR: 'it returns false'. Refute it at one input. -/
def crossingNextWrong : ChangeSpec := { name := "crossingNext", fn := fun _ => fun
  | [d1, d2] => { results := [.lit (.bool false)], args := [d1, d2] }
  | _ => none }
def CrossingNextWrongFalsely : Prop := crossingNextRow.holds Tryd.pinned (OpenSpec.ofChange crossingNextWrong)

/-- 'prowlaw09.CrossingPast': WHATEVER THE INPUT: true; the input reads as it did. -/
def crossingPastSpec : ChangeSpec := { name := "crossingPast", fn := fun _ => fun
  | [d1, d2] => { results := [.lit (.bool true)], args := [d1, d2] }
  | _ => none }
def crossingPastRow : OpenClaim := { program := "ytpfglknbkpcfnaadoor", sum := "6bf3ee73fd837c40c93f588a8e6563fb8d962cb5d9ec34ef7cd7ffaa6c8599f1", func := "prow/prowlaw09.CrossingPast", spec := "crossingPast", unfollowed := true, recurses := true, named := ["prow/landing.nowhere", "prow/landing.unknown", "prow/crossing.nowhere", "prow/fairway.asks", "prow/crossing.sides", "prow/landing.asks"], plainKeys := false, apart := false, laid := [("prow/fairway.asks", laid_prow_fairway_asks), ("prow/landing.nowhere", laid_prow_landing_nowhere), ("prow/landing.unknown", laid_prow_landing_unknown), ("prow/landing.asks", laid_prow_landing_asks), ("prow/crossing.nowhere", laid_prow_crossing_nowhere), ("prow/crossing.sides", laid_prow_crossing_sides)] }
def CrossingPastSaid : Prop := crossingPastRow.holds Tryd.pinned (OpenSpec.ofChange crossingPastSpec)

/-- ITS FALSE NEIGHBOUR: 'it returns false'. Refute it at one input. -/
def crossingPastWrong : ChangeSpec := { name := "crossingPast", fn := fun _ => fun
  | [d1, d2] => { results := [.lit (.bool false)], args := [d1, d2] }
  | _ => none }
def CrossingPastWrongFalsely : Prop := crossingPastRow.holds Tryd.pinned (OpenSpec.ofChange crossingPastWrong)

/-- 'prowlaw09.CrossingPlan': WHATEVER THE INPUT: true; the input reads as it did. -/
def crossingPlanSpec : ChangeSpec := { name := "crossingPlan", fn := fun _ => fun
  | [d] => { results := [.lit (.bool true)], args := [d] }
  | _ => none }
def crossingPlanRow : OpenClaim := { program := "ytpfglknbkpcfnaadoor", sum := "6bf3ee73fd837c40c93f588a8e6563fb8d962cb5d9ec34ef7cd7ffaa6c8599f1", func := "prow/prowlaw09.CrossingPlan", spec := "crossingPlan", unfollowed := true, recurses := true, named := ["prow/landing.nowhere", "prow/landing.unknown", "prow/crossing.nowhere", "prow/fairway.asks", "prow/crossing.sides", "prow/landing.asks"], plainKeys := false, apart := false, laid := [("prow/fairway.asks", laid_prow_fairway_asks), ("prow/landing.nowhere", laid_prow_landing_nowhere), ("prow/landing.unknown", laid_prow_landing_unknown), ("prow/landing.asks", laid_prow_landing_asks), ("prow/crossing.nowhere", laid_prow_crossing_nowhere), ("prow/crossing.sides", laid_prow_crossing_sides)] }
def CrossingPlanSaid : Prop := crossingPlanRow.holds Tryd.pinned (OpenSpec.ofChange crossingPlanSpec)

/-- ITS FALSE NEIGHBOUR: 'it returns false'. Refute it at one input. -/
def crossingPlanWrong : ChangeSpec := { name := "crossingPlan", fn := fun _ => fun
  | [d] => { results := [.lit (.bool false)], args := [d] }
  | _ => none }
def CrossingPlanWrongFalsely : Prop := crossingPlanRow.holds Tryd.pinned (OpenSpec.ofChange crossingPlanWrong)

/-- 'prowlaw09.CrossingBefore': WHATEVER THE INPUT: true; the input reads as it did. -/
def crossingBeforeSpec : ChangeSpec := { name := "crossingBefore", fn := fun _ => fun
  | [d1, d2] => { results := [.lit (.bool true)], args := [d1, d2] }
  | _ => none }
def crossingBeforeRow : OpenClaim := { program := "ytpfglknbkpcfnaadoor", sum := "6bf3ee73fd837c40c93f588a8e6563fb8d962cb5d9ec34ef7cd7ffaa6c8599f1", func := "prow/prowlaw09.CrossingBefore", spec := "crossingBefore", unfollowed := true, recurses := true, named := ["prow/landing.nowhere", "prow/landing.unknown", "prow/crossing.nowhere", "prow/fairway.asks", "prow/crossing.sides", "prow/landing.asks"], plainKeys := false, apart := false, laid := [("prow/fairway.asks", laid_prow_fairway_asks), ("prow/landing.nowhere", laid_prow_landing_nowhere), ("prow/landing.unknown", laid_prow_landing_unknown), ("prow/landing.asks", laid_prow_landing_asks), ("prow/crossing.nowhere", laid_prow_crossing_nowhere), ("prow/crossing.sides", laid_prow_crossing_sides)] }
def CrossingBeforeSaid : Prop := crossingBeforeRow.holds Tryd.pinned (OpenSpec.ofChange crossingBeforeSpec)

/-- ITS FALSE NEIGHBOUR: 'it returns false'. Refute it at one input. -/
def crossingBeforeWrong : ChangeSpec := { name := "crossingBefore", fn := fun _ => fun
  | [d1, d2] => { results := [.lit (.bool false)], args := [d1, d2] }
  | _ => none }
def CrossingBeforeWrongFalsely : Prop := crossingBeforeRow.holds Tryd.pinned (OpenSpec.ofChange crossingBeforeWrong)

/-- 'prowlaw09.CrossingMany': WHATEVER THE INPUT: true; the input reads as it did. -/
def crossingManySpec : ChangeSpec := { name := "crossingMany", fn := fun _ => fun
  | [d1, d2] => { results := [.lit (.bool true)], args := [d1, d2] }
  | _ => none }
def crossingManyRow : OpenClaim := { program := "ytpfglknbkpcfnaadoor", sum := "6bf3ee73fd837c40c93f588a8e6563fb8d962cb5d9ec34ef7cd7ffaa6c8599f1", func := "prow/prowlaw09.CrossingMany", spec := "crossingMany", unfollowed := true, recurses := true, named := ["prow/landing.nowhere", "prow/landing.unknown", "prow/crossing.nowhere", "prow/fairway.asks", "prow/crossing.sides", "prow/landing.asks"], plainKeys := false, apart := false, laid := [("prow/fairway.asks", laid_prow_fairway_asks), ("prow/landing.nowhere", laid_prow_landing_nowhere), ("prow/landing.unknown", laid_prow_landing_unknown), ("prow/landing.asks", laid_prow_landing_asks), ("prow/crossing.nowhere", laid_prow_crossing_nowhere), ("prow/crossing.sides", laid_prow_crossing_sides)] }
def CrossingManySaid : Prop := crossingManyRow.holds Tryd.pinned (OpenSpec.ofChange crossingManySpec)

/-- ITS FALSE NEIGHBOUR: 'it returns false'. Refute it at one input. -/
def crossingManyWrong : ChangeSpec := { name := "crossingMany", fn := fun _ => fun
  | [d1, d2] => { results := [.lit (.bool false)], args := [d1, d2] }
  | _ => none }
def CrossingManyWrongFalsely : Prop := crossingManyRow.holds Tryd.pinned (OpenSpec.ofChange crossingManyWrong)

/-- 'prowlaw09.CrossingLate': WHATEVER THE INPUT: true; the input reads as it did. -/
def crossingLateSpec : ChangeSpec := { name := "crossingLate", fn := fun _ => fun
  | [d1, d2] => { results := [.lit (.bool true)], args := [d1, d2] }
  | _ => none }
def crossingLateRow : OpenClaim := { program := "ytpfglknbkpcfnaadoor", sum := "6bf3ee73fd837c40c93f588a8e6563fb8d962cb5d9ec34ef7cd7ffaa6c8599f1", func := "prow/prowlaw09.CrossingLate", spec := "crossingLate", unfollowed := true, recurses := true, named := ["prow/landing.nowhere", "prow/landing.unknown", "prow/crossing.nowhere", "prow/fairway.asks", "prow/crossing.sides", "prow/landing.asks"], plainKeys := false, apart := false, laid := [("prow/fairway.asks", laid_prow_fairway_asks), ("prow/landing.nowhere", laid_prow_landing_nowhere), ("prow/landing.unknown", laid_prow_landing_unknown), ("prow/landing.asks", laid_prow_landing_asks), ("prow/crossing.nowhere", laid_prow_crossing_nowhere), ("prow/crossing.sides", laid_prow_crossing_sides)] }
def CrossingLateSaid : Prop := crossingLateRow.holds Tryd.pinned (OpenSpec.ofChange crossingLateSpec)

/-- ITS FALSE NEIGHBOUR: 'it returns false'. Refute it at one input. -/
def crossingLateWrong : ChangeSpec := { name := "crossingLate", fn := fun _ => fun
  | [d1, d2] => { results := [.lit (.bool false)], args := [d1, d2] }
  | _ => none }
def CrossingLateWrongFalsely : Prop := crossingLateRow.holds Tryd.pinned (OpenSpec.ofChange crossingLateWrong)

/-- 'prowlaw09.CrossingShip': WHATEVER THE INPUT: true; the input reads as it did. -/
def crossingShipSpec : ChangeSpec := { name := "crossingShip", fn := fun _ => fun
  | [d1, d2] => { results := [.lit (.bool true)], args := [d1, d2] }
  | _ => none }
def crossingShipRow : OpenClaim := { program := "ytpfglknbkpcfnaadoor", sum := "6bf3ee73fd837c40c93f588a8e6563fb8d962cb5d9ec34ef7cd7ffaa6c8599f1", func := "prow/prowlaw09.CrossingShip", spec := "crossingShip", unfollowed := true, recurses := true, named := ["prow/landing.nowhere", "prow/landing.unknown", "prow/crossing.nowhere", "prow/fairway.asks", "prow/crossing.sides", "prow/landing.asks"], plainKeys := false, apart := false, laid := [("prow/fairway.asks", laid_prow_fairway_asks), ("prow/landing.nowhere", laid_prow_landing_nowhere), ("prow/landing.unknown", laid_prow_landing_unknown), ("prow/landing.asks", laid_prow_landing_asks), ("prow/crossing.nowhere", laid_prow_crossing_nowhere), ("prow/crossing.sides", laid_prow_crossing_sides)] }
def CrossingShipSaid : Prop := crossingShipRow.holds Tryd.pinned (OpenSpec.ofChange crossingShipSpec)

/-- ITS FALSE NEIGHBOUR: 'it returns false'. Refute it at one input. -/
def crossingShipWrong : ChangeSpec := { name := "crossingShip", fn := fun _ => fun
  | [d1, d2] => { results := [.lit (.bool false)], args := [d1, d2] }
  | _ => none }
def CrossingShipWrongFalsely : Prop := crossingShipRow.holds Tryd.pinned (OpenSpec.ofChange crossingShipWrong)

/-- 'prowlaw09.CrossingMore': WHATEVER THE INPUT: true; the input reads as it did. -/
def crossingMoreSpec : ChangeSpec := { name := "crossingMore", fn := fun _ => fun
  | [d1, d2] => { results := [.lit (.bool true)], args := [d1, d2] }
  | _ => none }
def crossingMoreRow : OpenClaim := { program := "ytpfglknbkpcfnaadoor", sum := "6bf3ee73fd837c40c93f588a8e6563fb8d962cb5d9ec34ef7cd7ffaa6c8599f1", func := "prow/prowlaw09.CrossingMore", spec := "crossingMore", unfollowed := true, recurses := true, named := ["prow/landing.nowhere", "prow/landing.unknown", "prow/crossing.nowhere", "prow/fairway.asks", "prow/crossing.sides", "prow/landing.asks"], plainKeys := false, apart := false, laid := [("prow/fairway.asks", laid_prow_fairway_asks), ("prow/landing.nowhere", laid_prow_landing_nowhere), ("prow/landing.unknown", laid_prow_landing_unknown), ("prow/landing.asks", laid_prow_landing_asks), ("prow/crossing.nowhere", laid_prow_crossing_nowhere), ("prow/crossing.sides", laid_prow_crossing_sides)] }
def CrossingMoreSaid : Prop := crossingMoreRow.holds Tryd.pinned (OpenSpec.ofChange crossingMoreSpec)

/-- ITS FALSE NEIGHBOUR: 'it returns false'. Refute it at one input. -/
def crossingMoreWrong : ChangeSpec := { name := "crossingMore", fn := fun _ => fun
  | [d1, d2] => { results := [.lit (.bool false)], args := [d1, d2] }
  | _ => none }
def CrossingMoreWrongFalsely : Prop := crossingMoreRow.holds Tryd.pinned (OpenSpec.ofChange crossingMoreWrong)

/-- 'prowlaw09.CrossingKnown': WHATEVER THE INPUT: true; the input reads as it did. -/
def crossingKnownSpec : ChangeSpec := { name := "crossingKnown", fn := fun _ => fun
  | [] => { results := [.lit (.bool true)], args := [] }
  | _ => none }
def crossingKnownRow : OpenClaim := { program := "ytpfglknbkpcfnaadoor", sum := "6bf3ee73fd837c40c93f588a8e6563fb8d962cb5d9ec34ef7cd7ffaa6c8599f1", func := "prow/prowlaw09.CrossingKnown", spec := "crossingKnown", unfollowed := true, recurses := true, named := ["prow/landing.nowhere", "prow/landing.unknown", "prow/crossing.nowhere", "prow/fairway.asks", "prow/crossing.sides", "prow/landing.asks"], plainKeys := false, apart := false, laid := [("prow/fairway.asks", laid_prow_fairway_asks), ("prow/landing.nowhere", laid_prow_landing_nowhere), ("prow/landing.unknown", laid_prow_landing_unknown), ("prow/landing.asks", laid_prow_landing_asks), ("prow/crossing.nowhere", laid_prow_crossing_nowhere), ("prow/crossing.sides", laid_prow_crossing_sides)] }
def CrossingKnownSaid : Prop := crossingKnownRow.holds Tryd.pinned (OpenSpec.ofChange crossingKnownSpec)

/-- ITS FALSE NEIGHBOUR: 'it returns false'. Refute it at one input. -/
def crossingKnownWrong : ChangeSpec := { name := "crossingKnown", fn := fun _ => fun
  | [] => { results := [.lit (.bool false)], args := [] }
  | _ => none }
def CrossingKnownWrongFalsely : Prop := crossingKnownRow.holds Tryd.pinned (OpenSpec.ofChange crossingKnownWrong)

/- THE SECOND FORM. 'bulk': how many values and letters a reading holds, each counted each time it is reached (what is shared counts as often as it is met; a slice's spare places count too). A statement '..UptoSaid' is the law's where the arguments, and the package variables that the reading takes, are together of bulk at most 1048576: NARROWER than '..Said'. Prove '..Said' where nothing that the law and all that it calls make is longer than what came in: it says more and counts as full. Else prove '..UptoSaid'. A law counts once. -/
mutual
def uptoBulk {H : Type} : DataW H → Nat
  | .lit (.string bytes) => bytes.length + 1
  | .lit _ => 1
  | .nil => 1
  | .ptr d => uptoBulk d + 1
  | .slice elems spare => uptoBulkAll elems + uptoBulkAll spare + 1
  | .agg parts => uptoBulkAll parts + 1
  | .iface _ d => uptoBulk d + 1
  | .map entries => uptoBulkEntries entries + 1
  | .held _ => 1
def uptoBulkAll {H : Type} : List (DataW H) → Nat
  | [] => 0
  | d :: r => uptoBulk d + uptoBulkAll r
def uptoBulkEntries {H : Type} : List (Lit × DataW H) → Nat
  | [] => 0
  | x :: r => uptoBulkEntry x + uptoBulkEntries r
def uptoBulkEntry {H : Type} : Lit × DataW H → Nat
  | (.string bytes, d) => bytes.length + uptoBulk d + 1
  | (_, d) => uptoBulk d + 1
 end
def uptoSmall : (H : Type) → List (DataW H) → Bool := fun _ ds => decide (uptoBulkAll ds ≤ 1048576)
def OpenSpec.upto (s : _root_.Go.ChangeSpec) : _root_.Go.OpenSpec := { _root_.Go.OpenSpec.ofChange s with cond := some uptoSmall }

/-- 'prowlaw09.CrossingLeast', WHERE WHAT IT READS IS OF BULK AT MOST 1048576: true; the input reads as it did. -/
def crossingLeastUptoRow : OpenClaim := { program := "ytpfglknbkpcfnaadoor", sum := "6bf3ee73fd837c40c93f588a8e6563fb8d962cb5d9ec34ef7cd7ffaa6c8599f1", func := "prow/prowlaw09.CrossingLeast", spec := "crossingLeast", unfollowed := true, recurses := true, named := ["prow/landing.nowhere", "prow/landing.unknown", "prow/crossing.nowhere", "prow/fairway.asks", "prow/crossing.sides", "prow/landing.asks"], plainKeys := false, apart := false, laid := [("prow/fairway.asks", laid_prow_fairway_asks), ("prow/landing.nowhere", laid_prow_landing_nowhere), ("prow/landing.unknown", laid_prow_landing_unknown), ("prow/landing.asks", laid_prow_landing_asks), ("prow/crossing.nowhere", laid_prow_crossing_nowhere), ("prow/crossing.sides", laid_prow_crossing_sides)], narrowed := true }
def CrossingLeastUptoSaid : Prop := crossingLeastUptoRow.holds Tryd.pinned (OpenSpec.upto crossingLeastSpec)

/-- 'prowlaw09.CrossingNext', WHERE WHAT IT READS IS OF BULK AT MOST 1048576: true; the input reads as it did. -/
def crossingNextUptoRow : OpenClaim := { program := "ytpfglknbkpcfnaadoor", sum := "6bf3ee73fd837c40c93f588a8e6563fb8d962cb5d9ec34ef7cd7ffaa6c8599f1", func := "prow/prowlaw09.CrossingNext", spec := "crossingNext", unfollowed := true, recurses := true, named := ["prow/landing.nowhere", "prow/landing.unknown", "prow/crossing.nowhere", "prow/fairway.asks", "prow/crossing.sides", "prow/landing.asks"], plainKeys := false, apart := false, laid := [("prow/fairway.asks", laid_prow_fairway_asks), ("prow/landing.nowhere", laid_prow_landing_nowhere), ("prow/landing.unknown", laid_prow_landing_unknown), ("prow/landing.asks", laid_prow_landing_asks), ("prow/crossing.nowhere", laid_prow_crossing_nowhere), ("prow/crossing.sides", laid_prow_crossing_sides)], narrowed := true }
def CrossingNextUptoSaid : Prop := crossingNextUptoRow.holds Tryd.pinned (OpenSpec.upto crossingNextSpec)

/-- 'prowlaw09.CrossingPast', WHERE WHAT IT READS IS OF BULK AT MOST 1048576: true; the input reads as it did. -/
def crossingPastUptoRow : OpenClaim := { program := "ytpfglknbkpcfnaadoor", sum := "6bf3ee73fd837c40c93f588a8e6563fb8d962cb5d9ec34ef7cd7ffaa6c8599f1", func := "prow/prowlaw09.CrossingPast", spec := "crossingPast", unfollowed := true, recurses := true, named := ["prow/landing.nowhere", "prow/landing.unknown", "prow/crossing.nowhere", "prow/fairway.asks", "prow/crossing.sides", "prow/landing.asks"], plainKeys := false, apart := false, laid := [("prow/fairway.asks", laid_prow_fairway_asks), ("prow/landing.nowhere", laid_prow_landing_nowhere), ("prow/landing.unknown", laid_prow_landing_unknown), ("prow/landing.asks", laid_prow_landing_asks), ("prow/crossing.nowhere", laid_prow_crossing_nowhere), ("prow/crossing.sides", laid_prow_crossing_sides)], narrowed := true }
def CrossingPastUptoSaid : Prop := crossingPastUptoRow.holds Tryd.pinned (OpenSpec.upto crossingPastSpec)

/-- 'prowlaw09.CrossingPlan', WHERE WHAT IT READS IS OF BULK AT MOST 1048576: true; the input reads as it did. -/
def crossingPlanUptoRow : OpenClaim := { program := "ytpfglknbkpcfnaadoor", sum := "6bf3ee73fd837c40c93f588a8e6563fb8d962cb5d9ec34ef7cd7ffaa6c8599f1", func := "prow/prowlaw09.CrossingPlan", spec := "crossingPlan", unfollowed := true, recurses := true, named := ["prow/landing.nowhere", "prow/landing.unknown", "prow/crossing.nowhere", "prow/fairway.asks", "prow/crossing.sides", "prow/landing.asks"], plainKeys := false, apart := false, laid := [("prow/fairway.asks", laid_prow_fairway_asks), ("prow/landing.nowhere", laid_prow_landing_nowhere), ("prow/landing.unknown", laid_prow_landing_unknown), ("prow/landing.asks", laid_prow_landing_asks), ("prow/crossing.nowhere", laid_prow_crossing_nowhere), ("prow/crossing.sides", laid_prow_crossing_sides)], narrowed := true }
def CrossingPlanUptoSaid : Prop := crossingPlanUptoRow.holds Tryd.pinned (OpenSpec.upto crossingPlanSpec)

/-- 'prowlaw09.CrossingBefore', WHERE WHAT IT READS IS OF BULK AT MOST 1048576: true; the input reads as it did. -/
def crossingBeforeUptoRow : OpenClaim := { program := "ytpfglknbkpcfnaadoor", sum := "6bf3ee73fd837c40c93f588a8e6563fb8d962cb5d9ec34ef7cd7ffaa6c8599f1", func := "prow/prowlaw09.CrossingBefore", spec := "crossingBefore", unfollowed := true, recurses := true, named := ["prow/landing.nowhere", "prow/landing.unknown", "prow/crossing.nowhere", "prow/fairway.asks", "prow/crossing.sides", "prow/landing.asks"], plainKeys := false, apart := false, laid := [("prow/fairway.asks", laid_prow_fairway_asks), ("prow/landing.nowhere", laid_prow_landing_nowhere), ("prow/landing.unknown", laid_prow_landing_unknown), ("prow/landing.asks", laid_prow_landing_asks), ("prow/crossing.nowhere", laid_prow_crossing_nowhere), ("prow/crossing.sides", laid_prow_crossing_sides)], narrowed := true }
def CrossingBeforeUptoSaid : Prop := crossingBeforeUptoRow.holds Tryd.pinned (OpenSpec.upto crossingBeforeSpec)

/-- 'prowlaw09.CrossingMany', WHERE WHAT IT READS IS OF BULK AT MOST 1048576: true; the input reads as it did. -/
def crossingManyUptoRow : OpenClaim := { program := "ytpfglknbkpcfnaadoor", sum := "6bf3ee73fd837c40c93f588a8e6563fb8d962cb5d9ec34ef7cd7ffaa6c8599f1", func := "prow/prowlaw09.CrossingMany", spec := "crossingMany", unfollowed := true, recurses := true, named := ["prow/landing.nowhere", "prow/landing.unknown", "prow/crossing.nowhere", "prow/fairway.asks", "prow/crossing.sides", "prow/landing.asks"], plainKeys := false, apart := false, laid := [("prow/fairway.asks", laid_prow_fairway_asks), ("prow/landing.nowhere", laid_prow_landing_nowhere), ("prow/landing.unknown", laid_prow_landing_unknown), ("prow/landing.asks", laid_prow_landing_asks), ("prow/crossing.nowhere", laid_prow_crossing_nowhere), ("prow/crossing.sides", laid_prow_crossing_sides)], narrowed := true }
def CrossingManyUptoSaid : Prop := crossingManyUptoRow.holds Tryd.pinned (OpenSpec.upto crossingManySpec)

/-- 'prowlaw09.CrossingLate', WHERE WHAT IT READS IS OF BULK AT MOST 1048576: true; the input reads as it did. -/
def crossingLateUptoRow : OpenClaim := { program := "ytpfglknbkpcfnaadoor", sum := "6bf3ee73fd837c40c93f588a8e6563fb8d962cb5d9ec34ef7cd7ffaa6c8599f1", func := "prow/prowlaw09.CrossingLate", spec := "crossingLate", unfollowed := true, recurses := true, named := ["prow/landing.nowhere", "prow/landing.unknown", "prow/crossing.nowhere", "prow/fairway.asks", "prow/crossing.sides", "prow/landing.asks"], plainKeys := false, apart := false, laid := [("prow/fairway.asks", laid_prow_fairway_asks), ("prow/landing.nowhere", laid_prow_landing_nowhere), ("prow/landing.unknown", laid_prow_landing_unknown), ("prow/landing.asks", laid_prow_landing_asks), ("prow/crossing.nowhere", laid_prow_crossing_nowhere), ("prow/crossing.sides", laid_prow_crossing_sides)], narrowed := true }
def CrossingLateUptoSaid : Prop := crossingLateUptoRow.holds Tryd.pinned (OpenSpec.upto crossingLateSpec)

/-- 'prowlaw09.CrossingShip', WHERE WHAT IT READS IS OF BULK AT MOST 1048576: true; the input reads as it did. -/
def crossingShipUptoRow : OpenClaim := { program := "ytpfglknbkpcfnaadoor", sum := "6bf3ee73fd837c40c93f588a8e6563fb8d962cb5d9ec34ef7cd7ffaa6c8599f1", func := "prow/prowlaw09.CrossingShip", spec := "crossingShip", unfollowed := true, recurses := true, named := ["prow/landing.nowhere", "prow/landing.unknown", "prow/crossing.nowhere", "prow/fairway.asks", "prow/crossing.sides", "prow/landing.asks"], plainKeys := false, apart := false, laid := [("prow/fairway.asks", laid_prow_fairway_asks), ("prow/landing.nowhere", laid_prow_landing_nowhere), ("prow/landing.unknown", laid_prow_landing_unknown), ("prow/landing.asks", laid_prow_landing_asks), ("prow/crossing.nowhere", laid_prow_crossing_nowhere), ("prow/crossing.sides", laid_prow_crossing_sides)], narrowed := true }
def CrossingShipUptoSaid : Prop := crossingShipUptoRow.holds Tryd.pinned (OpenSpec.upto crossingShipSpec)

/-- 'prowlaw09.CrossingMore', WHERE WHAT IT READS IS OF BULK AT MOST 1048576: true; the input reads as it did. -/
def crossingMoreUptoRow : OpenClaim := { program := "ytpfglknbkpcfnaadoor", sum := "6bf3ee73fd837c40c93f588a8e6563fb8d962cb5d9ec34ef7cd7ffaa6c8599f1", func := "prow/prowlaw09.CrossingMore", spec := "crossingMore", unfollowed := true, recurses := true, named := ["prow/landing.nowhere", "prow/landing.unknown", "prow/crossing.nowhere", "prow/fairway.asks", "prow/crossing.sides", "prow/landing.asks"], plainKeys := false, apart := false, laid := [("prow/fairway.asks", laid_prow_fairway_asks), ("prow/landing.nowhere", laid_prow_landing_nowhere), ("prow/landing.unknown", laid_prow_landing_unknown), ("prow/landing.asks", laid_prow_landing_asks), ("prow/crossing.nowhere", laid_prow_crossing_nowhere), ("prow/crossing.sides", laid_prow_crossing_sides)], narrowed := true }
def CrossingMoreUptoSaid : Prop := crossingMoreUptoRow.holds Tryd.pinned (OpenSpec.upto crossingMoreSpec)

/-- 'prowlaw09.CrossingKnown', WHERE WHAT IT READS IS OF BULK AT MOST 1048576: true; the input reads as it did. -/
def crossingKnownUptoRow : OpenClaim := { program := "ytpfglknbkpcfnaadoor", sum := "6bf3ee73fd837c40c93f588a8e6563fb8d962cb5d9ec34ef7cd7ffaa6c8599f1", func := "prow/prowlaw09.CrossingKnown", spec := "crossingKnown", unfollowed := true, recurses := true, named := ["prow/landing.nowhere", "prow/landing.unknown", "prow/crossing.nowhere", "prow/fairway.asks", "prow/crossing.sides", "prow/landing.asks"], plainKeys := false, apart := false, laid := [("prow/fairway.asks", laid_prow_fairway_asks), ("prow/landing.nowhere", laid_prow_landing_nowhere), ("prow/landing.unknown", laid_prow_landing_unknown), ("prow/landing.asks", laid_prow_landing_asks), ("prow/crossing.nowhere", laid_prow_crossing_nowhere), ("prow/crossing.sides", laid_prow_crossing_sides)], narrowed := true }
def CrossingKnownUptoSaid : Prop := crossingKnownUptoRow.holds Tryd.pinned (OpenSpec.upto crossingKnownSpec)

end Rows
end Go.Proofs.YtpfglknbkpcfnaaDoor
