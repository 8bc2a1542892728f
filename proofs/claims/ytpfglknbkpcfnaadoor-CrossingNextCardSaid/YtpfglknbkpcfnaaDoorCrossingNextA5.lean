/-
 CrossingNext: for every book and every four numbers the law returns true, and leaves them as they were. Conditions: none but the row's own.
-/
import Derived.Test.YtpfglknbkpcfnaaDoorCrossingNextA4
import Derived.ArgAppend
import Derived.Below
import Derived.Carry
import Derived.ChangeKeysEq
import Derived.ControlIn
import Derived.Deep.DeepHandedRow
import Derived.Deep.DeepWitnessRowRef
import Derived.Deep.Draws
import Derived.Deep.Quiet
import Derived.Deep.Slices
import Derived.KernelRfl
import Derived.LaidMore
import Derived.Laws.AppendOwn
import Derived.Laws.Cells
import Derived.Laws.CopyRow
import Derived.Laws.IdiomCopy
import Derived.Laws.IdiomRangeMap
import Derived.Laws.OwnMore
import Derived.Laws.Rows
import Derived.MapKept
import Derived.Maps.AppendAt
import Derived.OpenShut
import Derived.OrdersHeld
import Derived.OrdersIn
import Derived.ProofKit
import Derived.RangeFuncLeaves
import Derived.RangeFuncNested
import Derived.RangeFuncOwn
import Derived.SevenTiedAt
import Derived.SizedLaws
import Derived.Stop.Joined
import Derived.Test.YtpfglknbkpcfnaaDoorCards
import Derived.Test.YtpfglknbkpcfnaaDoorProg
import Derived.Test.YtpfglknbkpcfnaaDoorRows
import Derived.Test.YtpfglknbkpcfnaaDoorTie
import Derived.WalkKit
import Derived.WideKeyRuns
set_option linter.all false
namespace Go.Proofs.YtpfglknbkpcfnaaDoor.X
open Go Go.RowKit Go.Proofs.YtpfglknbkpcfnaaDoor.Eng Go.Proofs.YtpfglknbkpcfnaaDoor.Fw
def CrossingNextL (b : XBook) (n : Int × Int × Int × Int) : Bool :=
 (bif !(soundL b) then true else (bif !(true2L b) then ((((nextX b (modF n.1 2) (modF n.2.1 201) (modF n.2.2.1 61)).2 == 92) && ((nextX b (modF n.1 2) (modF n.2.1 201) (IntKind.i64.wrap ((modF n.2.2.1 61) + (modF n.2.2.2 (IntKind.i64.wrap ((IntKind.i64.wrap (60 - (modF n.2.2.1 61))) + 1)))))).2 == (nextX b (modF n.1 2) (modF n.2.1 201) (modF n.2.2.1 61)).2)) && ((IntKind.i64.wrap ((nextX b (modF n.1 2) (modF n.2.1 201) (modF n.2.2.1 61)).1 + (nextX b (modF n.1 2) (modF n.2.1 201) (IntKind.i64.wrap ((modF n.2.2.1 61) + (modF n.2.2.2 (IntKind.i64.wrap ((IntKind.i64.wrap (60 - (modF n.2.2.1 61))) + 1)))))).1)) == 0)) || false else (bif (nextX b (modF n.1 2) (modF n.2.1 201) (modF n.2.2.1 61)).2 != 0 then (((((nextX b (modF n.1 2) (modF n.2.1 201) (modF n.2.2.1 61)).2 == 4) && ((nextX b (modF n.1 2) (modF n.2.1 201) (IntKind.i64.wrap ((modF n.2.2.1 61) + (modF n.2.2.2 (IntKind.i64.wrap ((IntKind.i64.wrap (60 - (modF n.2.2.1 61))) + 1)))))).2 == (nextX b (modF n.1 2) (modF n.2.1 201) (modF n.2.2.1 61)).2)) && ((IntKind.i64.wrap ((nextX b (modF n.1 2) (modF n.2.1 201) (modF n.2.2.1 61)).1 + (nextX b (modF n.1 2) (modF n.2.1 201) (IntKind.i64.wrap ((modF n.2.2.1 61) + (modF n.2.2.2 (IntKind.i64.wrap ((IntKind.i64.wrap (60 - (modF n.2.2.1 61))) + 1)))))).1)) == 0)) && (!(sureL b (modF n.1 2) (modF n.2.1 201) (IntKind.i64.wrap ((modF n.2.2.1 61) + (modF n.2.2.2 (IntKind.i64.wrap ((IntKind.i64.wrap (60 - (modF n.2.2.1 61))) + 1)))))))) || false else (bif ((!(insideF (nextX b (modF n.1 2) (modF n.2.1 201) (modF n.2.2.1 61)).1 (modF n.2.2.1 61) 60)) || (!(sureL b (modF n.1 2) (modF n.2.1 201) (nextX b (modF n.1 2) (modF n.2.1 201) (modF n.2.2.1 61)).1))) || ((decide ((IntKind.i64.wrap ((modF n.2.2.1 61) + (modF n.2.2.2 (IntKind.i64.wrap ((IntKind.i64.wrap (60 - (modF n.2.2.1 61))) + 1))))) < (nextX b (modF n.1 2) (modF n.2.1 201) (modF n.2.2.1 61)).1)) && (sureL b (modF n.1 2) (modF n.2.1 201) (IntKind.i64.wrap ((modF n.2.2.1 61) + (modF n.2.2.2 (IntKind.i64.wrap ((IntKind.i64.wrap (60 - (modF n.2.2.1 61))) + 1))))))) then false else ((((nextX b (modF n.1 2) (modF n.2.1 201) (IntKind.i64.wrap ((modF n.2.2.1 61) + (modF n.2.2.2 (IntKind.i64.wrap ((IntKind.i64.wrap (60 - (modF n.2.2.1 61))) + 1)))))).2 == 4) && (decide ((IntKind.i64.wrap ((modF n.2.2.1 61) + (modF n.2.2.2 (IntKind.i64.wrap ((IntKind.i64.wrap (60 - (modF n.2.2.1 61))) + 1))))) > (nextX b (modF n.1 2) (modF n.2.1 201) (modF n.2.2.1 61)).1))) || ((((nextX b (modF n.1 2) (modF n.2.1 201) (IntKind.i64.wrap ((modF n.2.2.1 61) + (modF n.2.2.2 (IntKind.i64.wrap ((IntKind.i64.wrap (60 - (modF n.2.2.1 61))) + 1)))))).2 == 0) && (decide ((nextX b (modF n.1 2) (modF n.2.1 201) (IntKind.i64.wrap ((modF n.2.2.1 61) + (modF n.2.2.2 (IntKind.i64.wrap ((IntKind.i64.wrap (60 - (modF n.2.2.1 61))) + 1)))))).1 ≥ (nextX b (modF n.1 2) (modF n.2.1 201) (modF n.2.2.1 61)).1))) && ((decide ((IntKind.i64.wrap ((modF n.2.2.1 61) + (modF n.2.2.2 (IntKind.i64.wrap ((IntKind.i64.wrap (60 - (modF n.2.2.1 61))) + 1))))) > (nextX b (modF n.1 2) (modF n.2.1 201) (modF n.2.2.1 61)).1)) || ((nextX b (modF n.1 2) (modF n.2.1 201) (IntKind.i64.wrap ((modF n.2.2.1 61) + (modF n.2.2.2 (IntKind.i64.wrap ((IntKind.i64.wrap (60 - (modF n.2.2.1 61))) + 1)))))).1 == (nextX b (modF n.1 2) (modF n.2.1 201) (modF n.2.2.1 61)).1)))) || false))))
theorem CrossingNextL_calls (g0 g1 g2 g3 g4 : Value) (b : XBook) (n : Int × Int × Int × Int) (w : World) (r0 : Reads w g0 2 b.lan.tides encSpan zSpan) (r1 : Reads w g1 3 b.lan.sounds encSound zSound) (r2 : Reads w g2 5 b.fw.ships encShip zShip) (r3 : Reads w g3 4 b.fw.sights encSight zSight) (r4 : Reads w g4 2 b.trips encTrip zTrip) (ha : AsksAt w) (hun : UnknownAt w) (hnw0 : NowhereAt w) (hla : LAsksAt w) (hsd : SidesAt w) (hxn : XNowhereAt w) (hfe : ferriedL = true) : Calls Tryd.prog 4 #[.agg ((xV g0 b g1 g2 g3 g4).toArray), .agg #[iv n.1, iv n.2.1, iv n.2.2.1, iv n.2.2.2]] w fun e w' => e = .returned (.bool (CrossingNextL b n)) ∧ Below w.heap.size w w' := by
 refine CW tt_ok [g0, g1, g2, g3, g4] 5 [.g (xQ b), .g [.int .i64 n.1, .int .i64 n.2.1, .int .i64 n.2.2.1, .int .i64 n.2.2.2]] (roX b ((5, .pf AsksAt (· = 5)) :: hp5)) 11 Tryd.func4 rfl rfl rfl (by simp [r0.one, r1.one, r2.one, r3.one, r4.one]) ⟨ro_in r0, ro_in r1, ro_in r2, ro_in r3, ro_in r4, pf_in ha, pf_in hun, pf_in hnw0, pf_in hla, pf_in hsd, pf_in hxn, trivial⟩ ?_
 have hl0 := Reads.len r0
 have hl1 := Reads.len r1
 have hl2 := Reads.len r2
 have hl3 := Reads.len r3
 have hl4 := Reads.len r4
 refine WSA tt_ok ?_
 refine WP_seq (WP_seq (WP_region (WPO_run tt_ok 1 (by kernel_rfl) ?_)))
 refine CAL 13 [.g (xQ b)] (.s (.bool (soundL b))) [] (fun hG nV w h => soundL_calls (nV 0) (nV 1) (nV 2) (nV 3) (nV 4) b w (h.rd 0 24) (h.rd 1 112) (h.rd 2 103) (h.rd 3 105) (h.rd 4 60) ) ?_
 refine WPA tt_ok ?_
 refine WP_cond (!(soundL b)) (by kernel_rfl) (fun hc2 => ?_) (fun hc2 => ?_)
 ·have hc2' := hc2; try simp only [bfs, ne_eq] at hc2'
  refine WP_seq (WP_region (CAL 14 [] (.s (.bool true)) [] (fun _ nV w h => ferriedL_is hfe w (h.ft 5 5) (h.ft 6 4) (h.ft 7 3) (h.ft 8 1) (h.ft 9 0) (h.ft 10 2)) ?_))
  refine WPA tt_ok ?_
  refine WP_ret ?_
  exact ⟨.s (.bool true), by kernel_rfl, fun nV w' h => ⟨by rw [show CrossingNextL b n = true from by unfold CrossingNextL; simp only [hc2, cond_true, cond_false]]; rfl, h.bel⟩⟩
 have hc2' := hc2; try simp only [bfs, ne_eq] at hc2'
 refine WP_skip ?_
 have hvX := sound_valid (by assumption)
 have he := hvX.each.1
 have hnt := hvX.nt
 have hnt1 := hvX.nt.1
 have hnt4 := hvX.nt.2
 have hcr := hvX.fw.cr
 have htu := hvX.turn
 have hsh := hvX.shore
 have hns := hvX.fw.nships
 have hng := hvX.fw.nsights
 refine WP_seq (WP_draw (by kernel_rfl) (by kernel_rfl) ?_)
 refine QAIX tt_ok 0 4 [] (by kernel_rfl) (fun hG => ⟨by omega, by omega⟩) ?_
 refine QARD tt_ok 12 0 1 0 [] 47 [.int .i64 n.1, .int .i64 n.2.1, .int .i64 n.2.2.1, .int .i64 n.2.2.2] (.int .i64 n.1) (by kernel_rfl) (by kernel_rfl) (by kernel_rfl) (fun _ => rfl) ?_
 refine QCALL 15 [.s (.int .i64 n.1), .s (.int .i64 2)] (.s (.int .i64 (modF n.1 2))) [] (by kernel_rfl) (goes_of (by kernel_rfl)) (by kernel_rfl) (by kernel_rfl) (fun hG nV w h => modF_calls  n.1 2 w  ) ?_
 refine QAIX tt_ok 1 4 [] (by kernel_rfl) (fun hG => ⟨by omega, by omega⟩) ?_
 refine QARD tt_ok 12 1 1 0 [] 47 [.int .i64 n.1, .int .i64 n.2.1, .int .i64 n.2.2.1, .int .i64 n.2.2.2] (.int .i64 n.2.1) (by kernel_rfl) (by kernel_rfl) (by kernel_rfl) (fun _ => rfl) ?_
 refine QCALL 15 [.s (.int .i64 n.2.1), .s (.int .i64 201)] (.s (.int .i64 (modF n.2.1 201))) [] (by kernel_rfl) (goes_of (by kernel_rfl)) (by kernel_rfl) (by kernel_rfl) (fun hG nV w h => modF_calls  n.2.1 201 w  ) ?_
 refine QAIX tt_ok 2 4 [] (by kernel_rfl) (fun hG => ⟨by omega, by omega⟩) ?_
 refine QARD tt_ok 12 2 1 0 [] 47 [.int .i64 n.1, .int .i64 n.2.1, .int .i64 n.2.2.1, .int .i64 n.2.2.2] (.int .i64 n.2.2.1) (by kernel_rfl) (by kernel_rfl) (by kernel_rfl) (fun _ => rfl) ?_
 refine QCALL 15 [.s (.int .i64 n.2.2.1), .s (.int .i64 61)] (.s (.int .i64 (modF n.2.2.1 61))) [] (by kernel_rfl) (goes_of (by kernel_rfl)) (by kernel_rfl) (by kernel_rfl) (fun hG nV w h => modF_calls  n.2.2.1 61 w  ) ?_
 refine WPQ_all tt_ok (by kernel_rfl) ?_
 refine WSR tt_ok 1 ?_
 refine AIXL tt_ok 3 4 [] (by kernel_rfl) (fun hG => by decide) ?_
 refine WPO_run tt_ok 4 (by kernel_rfl) ?_
 refine CAL 15 [.s (.int .i64 n.2.2.2), .s (.int .i64 (IntKind.i64.wrap ((IntKind.i64.wrap (60 - (modF n.2.2.1 61))) + 1)))] (.s (.int .i64 (modF n.2.2.2 (IntKind.i64.wrap ((IntKind.i64.wrap (60 - (modF n.2.2.1 61))) + 1))))) [] (fun hG nV w h => modF_calls  n.2.2.2 (IntKind.i64.wrap ((IntKind.i64.wrap (60 - (modF n.2.2.1 61))) + 1)) w  ) ?_
 refine WPA tt_ok ?_
 refine WSR tt_ok 4 ?_
 refine CAL 19 [.g (xQ b), .s (.int .i64 (modF n.1 2)), .s (.int .i64 (modF n.2.1 201)), .s (.int .i64 (modF n.2.2.1 61))] (.t [(false, [.int .i64 (nextX b (modF n.1 2) (modF n.2.1 201) (modF n.2.2.1 61)).1]), (false, [.int .i64 (nextX b (modF n.1 2) (modF n.2.1 201) (modF n.2.2.1 61)).2])]) [] (fun hG nV w h => nextX_calls (nV 0) (nV 1) (nV 2) (nV 3) (nV 4) b (modF n.1 2) (modF n.2.1 201) (modF n.2.2.1 61) w (h.rd 0 24) (h.rd 1 112) (h.rd 2 103) (h.rd 3 105) (h.rd 4 60) (h.ft 5 5) (h.ft 6 4) (h.ft 7 3) (h.ft 8 1) (h.ft 9 0) (h.ft 10 2) ) ?_
 refine WPA tt_ok ?_
 refine WSR tt_ok 4 ?_
 refine CAL 19 [.g (xQ b), .s (.int .i64 (modF n.1 2)), .s (.int .i64 (modF n.2.1 201)), .s (.int .i64 (IntKind.i64.wrap ((modF n.2.2.1 61) + (modF n.2.2.2 (IntKind.i64.wrap ((IntKind.i64.wrap (60 - (modF n.2.2.1 61))) + 1))))))] (.t [(false, [.int .i64 (nextX b (modF n.1 2) (modF n.2.1 201) (IntKind.i64.wrap ((modF n.2.2.1 61) + (modF n.2.2.2 (IntKind.i64.wrap ((IntKind.i64.wrap (60 - (modF n.2.2.1 61))) + 1)))))).1]), (false, [.int .i64 (nextX b (modF n.1 2) (modF n.2.1 201) (IntKind.i64.wrap ((modF n.2.2.1 61) + (modF n.2.2.2 (IntKind.i64.wrap ((IntKind.i64.wrap (60 - (modF n.2.2.1 61))) + 1)))))).2])]) [] (fun hG nV w h => nextX_calls (nV 0) (nV 1) (nV 2) (nV 3) (nV 4) b (modF n.1 2) (modF n.2.1 201) (IntKind.i64.wrap ((modF n.2.2.1 61) + (modF n.2.2.2 (IntKind.i64.wrap ((IntKind.i64.wrap (60 - (modF n.2.2.1 61))) + 1))))) w (h.rd 0 24) (h.rd 1 112) (h.rd 2 103) (h.rd 3 105) (h.rd 4 60) (h.ft 5 5) (h.ft 6 4) (h.ft 7 3) (h.ft 8 1) (h.ft 9 0) (h.ft 10 2) ) ?_
 refine WPA tt_ok ?_
 refine WP_seq (WP_seq (WP_region (WPO_run tt_ok 1 (by kernel_rfl) ?_)))
 refine CAL 17 [.g (xQ b)] (.s (.bool (true2L b))) [] (fun hG nV w h => true2L_calls (nV 0) (nV 1) (nV 2) (nV 3) (nV 4) b w (h.rd 0 24) (h.rd 1 112) (h.rd 2 103) (h.rd 3 105) (h.rd 4 60) (h.ft 5 5) (h.ft 6 4) (h.ft 7 3) ) ?_
 refine WPA tt_ok ?_
 refine WP_cond (!(true2L b)) (by kernel_rfl) (fun hc4 => ?_) (fun hc4 => ?_)
 ·have hc4' := hc4; try simp only [bfs, ne_eq] at hc4'
  refine WSR tt_ok 14 ?_
  refine CAL 14 [] (.s (.bool true)) [((((nextX b (modF n.1 2) (modF n.2.1 201) (modF n.2.2.1 61)).2 == 92) && ((nextX b (modF n.1 2) (modF n.2.1 201) (IntKind.i64.wrap ((modF n.2.2.1 61) + (modF n.2.2.2 (IntKind.i64.wrap ((IntKind.i64.wrap (60 - (modF n.2.2.1 61))) + 1)))))).2 == (nextX b (modF n.1 2) (modF n.2.1 201) (modF n.2.2.1 61)).2)) && ((IntKind.i64.wrap ((nextX b (modF n.1 2) (modF n.2.1 201) (modF n.2.2.1 61)).1 + (nextX b (modF n.1 2) (modF n.2.1 201) (IntKind.i64.wrap ((modF n.2.2.1 61) + (modF n.2.2.2 (IntKind.i64.wrap ((IntKind.i64.wrap (60 - (modF n.2.2.1 61))) + 1)))))).1)) == 0), true)] (fun _ nV w h => ferriedL_is hfe w (h.ft 5 5) (h.ft 6 4) (h.ft 7 3) (h.ft 8 1) (h.ft 9 0) (h.ft 10 2)) ?_
  refine WPA tt_ok ?_
  refine WP_ret ?_
  exact ⟨.s (.bool (((((nextX b (modF n.1 2) (modF n.2.1 201) (modF n.2.2.1 61)).2 == 92) && ((nextX b (modF n.1 2) (modF n.2.1 201) (IntKind.i64.wrap ((modF n.2.2.1 61) + (modF n.2.2.2 (IntKind.i64.wrap ((IntKind.i64.wrap (60 - (modF n.2.2.1 61))) + 1)))))).2 == (nextX b (modF n.1 2) (modF n.2.1 201) (modF n.2.2.1 61)).2)) && ((IntKind.i64.wrap ((nextX b (modF n.1 2) (modF n.2.1 201) (modF n.2.2.1 61)).1 + (nextX b (modF n.1 2) (modF n.2.1 201) (IntKind.i64.wrap ((modF n.2.2.1 61) + (modF n.2.2.2 (IntKind.i64.wrap ((IntKind.i64.wrap (60 - (modF n.2.2.1 61))) + 1)))))).1)) == 0)) || false)), by kernel_rfl, fun nV w' h => ⟨by rw [show CrossingNextL b n = (((((nextX b (modF n.1 2) (modF n.2.1 201) (modF n.2.2.1 61)).2 == 92) && ((nextX b (modF n.1 2) (modF n.2.1 201) (IntKind.i64.wrap ((modF n.2.2.1 61) + (modF n.2.2.2 (IntKind.i64.wrap ((IntKind.i64.wrap (60 - (modF n.2.2.1 61))) + 1)))))).2 == (nextX b (modF n.1 2) (modF n.2.1 201) (modF n.2.2.1 61)).2)) && ((IntKind.i64.wrap ((nextX b (modF n.1 2) (modF n.2.1 201) (modF n.2.2.1 61)).1 + (nextX b (modF n.1 2) (modF n.2.1 201) (IntKind.i64.wrap ((modF n.2.2.1 61) + (modF n.2.2.2 (IntKind.i64.wrap ((IntKind.i64.wrap (60 - (modF n.2.2.1 61))) + 1)))))).1)) == 0)) || false) from by unfold CrossingNextL; simp only [hc2, hc4, cond_true, cond_false]]; rfl, h.bel⟩⟩
 have hc4' := hc4; try simp only [bfs, ne_eq] at hc4'
 refine WP_skip ?_
 refine WP_seq (WSA tt_ok ?_)
 refine WP_cond ((nextX b (modF n.1 2) (modF n.2.1 201) (modF n.2.2.1 61)).2 != 0) (by kernel_rfl) (fun hc6 => ?_) (fun hc6 => ?_)
 ·have hc6' := hc6; try simp only [bfs, ne_eq] at hc6'
  refine WSR tt_ok 18 ?_
  refine CAL 20 [.g (xQ b), .s (.int .i64 (modF n.1 2)), .s (.int .i64 (modF n.2.1 201)), .s (.int .i64 (IntKind.i64.wrap ((modF n.2.2.1 61) + (modF n.2.2.2 (IntKind.i64.wrap ((IntKind.i64.wrap (60 - (modF n.2.2.1 61))) + 1))))))] (.s (.bool (sureL b (modF n.1 2) (modF n.2.1 201) (IntKind.i64.wrap ((modF n.2.2.1 61) + (modF n.2.2.2 (IntKind.i64.wrap ((IntKind.i64.wrap (60 - (modF n.2.2.1 61))) + 1)))))))) [((((nextX b (modF n.1 2) (modF n.2.1 201) (modF n.2.2.1 61)).2 == 4) && ((nextX b (modF n.1 2) (modF n.2.1 201) (IntKind.i64.wrap ((modF n.2.2.1 61) + (modF n.2.2.2 (IntKind.i64.wrap ((IntKind.i64.wrap (60 - (modF n.2.2.1 61))) + 1)))))).2 == (nextX b (modF n.1 2) (modF n.2.1 201) (modF n.2.2.1 61)).2)) && ((IntKind.i64.wrap ((nextX b (modF n.1 2) (modF n.2.1 201) (modF n.2.2.1 61)).1 + (nextX b (modF n.1 2) (modF n.2.1 201) (IntKind.i64.wrap ((modF n.2.2.1 61) + (modF n.2.2.2 (IntKind.i64.wrap ((IntKind.i64.wrap (60 - (modF n.2.2.1 61))) + 1)))))).1)) == 0), true)] (fun hG nV w h => sureL_calls (nV 0) (nV 1) (nV 2) (nV 3) (nV 4) b (modF n.1 2) (modF n.2.1 201) (IntKind.i64.wrap ((modF n.2.2.1 61) + (modF n.2.2.2 (IntKind.i64.wrap ((IntKind.i64.wrap (60 - (modF n.2.2.1 61))) + 1))))) w (h.rd 0 24) (h.rd 1 112) (h.rd 2 103) (h.rd 3 105) (h.rd 4 60) (h.ft 5 5) (h.ft 6 4) (h.ft 7 3) (h.ft 8 1) (h.ft 9 0) (h.ft 10 2) ) ?_
  refine WPO_run tt_ok 3 (by kernel_rfl) ?_
  refine CAL 14 [] (.s (.bool true)) [(((((nextX b (modF n.1 2) (modF n.2.1 201) (modF n.2.2.1 61)).2 == 4) && ((nextX b (modF n.1 2) (modF n.2.1 201) (IntKind.i64.wrap ((modF n.2.2.1 61) + (modF n.2.2.2 (IntKind.i64.wrap ((IntKind.i64.wrap (60 - (modF n.2.2.1 61))) + 1)))))).2 == (nextX b (modF n.1 2) (modF n.2.1 201) (modF n.2.2.1 61)).2)) && ((IntKind.i64.wrap ((nextX b (modF n.1 2) (modF n.2.1 201) (modF n.2.2.1 61)).1 + (nextX b (modF n.1 2) (modF n.2.1 201) (IntKind.i64.wrap ((modF n.2.2.1 61) + (modF n.2.2.2 (IntKind.i64.wrap ((IntKind.i64.wrap (60 - (modF n.2.2.1 61))) + 1)))))).1)) == 0)) && (!(sureL b (modF n.1 2) (modF n.2.1 201) (IntKind.i64.wrap ((modF n.2.2.1 61) + (modF n.2.2.2 (IntKind.i64.wrap ((IntKind.i64.wrap (60 - (modF n.2.2.1 61))) + 1))))))), true)] (fun _ nV w h => ferriedL_is hfe w (h.ft 5 5) (h.ft 6 4) (h.ft 7 3) (h.ft 8 1) (h.ft 9 0) (h.ft 10 2)) ?_
  refine WPA tt_ok ?_
  refine WP_ret ?_
  exact ⟨.s (.bool ((((((nextX b (modF n.1 2) (modF n.2.1 201) (modF n.2.2.1 61)).2 == 4) && ((nextX b (modF n.1 2) (modF n.2.1 201) (IntKind.i64.wrap ((modF n.2.2.1 61) + (modF n.2.2.2 (IntKind.i64.wrap ((IntKind.i64.wrap (60 - (modF n.2.2.1 61))) + 1)))))).2 == (nextX b (modF n.1 2) (modF n.2.1 201) (modF n.2.2.1 61)).2)) && ((IntKind.i64.wrap ((nextX b (modF n.1 2) (modF n.2.1 201) (modF n.2.2.1 61)).1 + (nextX b (modF n.1 2) (modF n.2.1 201) (IntKind.i64.wrap ((modF n.2.2.1 61) + (modF n.2.2.2 (IntKind.i64.wrap ((IntKind.i64.wrap (60 - (modF n.2.2.1 61))) + 1)))))).1)) == 0)) && (!(sureL b (modF n.1 2) (modF n.2.1 201) (IntKind.i64.wrap ((modF n.2.2.1 61) + (modF n.2.2.2 (IntKind.i64.wrap ((IntKind.i64.wrap (60 - (modF n.2.2.1 61))) + 1)))))))) || false)), by kernel_rfl, fun nV w' h => ⟨by rw [show CrossingNextL b n = ((((((nextX b (modF n.1 2) (modF n.2.1 201) (modF n.2.2.1 61)).2 == 4) && ((nextX b (modF n.1 2) (modF n.2.1 201) (IntKind.i64.wrap ((modF n.2.2.1 61) + (modF n.2.2.2 (IntKind.i64.wrap ((IntKind.i64.wrap (60 - (modF n.2.2.1 61))) + 1)))))).2 == (nextX b (modF n.1 2) (modF n.2.1 201) (modF n.2.2.1 61)).2)) && ((IntKind.i64.wrap ((nextX b (modF n.1 2) (modF n.2.1 201) (modF n.2.2.1 61)).1 + (nextX b (modF n.1 2) (modF n.2.1 201) (IntKind.i64.wrap ((modF n.2.2.1 61) + (modF n.2.2.2 (IntKind.i64.wrap ((IntKind.i64.wrap (60 - (modF n.2.2.1 61))) + 1)))))).1)) == 0)) && (!(sureL b (modF n.1 2) (modF n.2.1 201) (IntKind.i64.wrap ((modF n.2.2.1 61) + (modF n.2.2.2 (IntKind.i64.wrap ((IntKind.i64.wrap (60 - (modF n.2.2.1 61))) + 1)))))))) || false) from by unfold CrossingNextL; simp only [hc2, hc4, hc6, cond_true, cond_false]]; rfl, h.bel⟩⟩
 have hc6' := hc6; try simp only [bfs, ne_eq] at hc6'
 refine WP_skip ?_
 refine WP_seq (WP_seq (WP_region (WPO_run tt_ok 2 (by kernel_rfl) ?_)))
 refine CAL 21 [.s (.int .i64 (nextX b (modF n.1 2) (modF n.2.1 201) (modF n.2.2.1 61)).1), .s (.int .i64 (modF n.2.2.1 61)), .s (.int .i64 60)] (.s (.bool (insideF (nextX b (modF n.1 2) (modF n.2.1 201) (modF n.2.2.1 61)).1 (modF n.2.2.1 61) 60))) [] (fun hG nV w h => insideF_calls  (nextX b (modF n.1 2) (modF n.2.1 201) (modF n.2.2.1 61)).1 (modF n.2.2.1 61) 60 w  ) ?_
 refine WPO_run tt_ok 6 (by kernel_rfl) ?_
 refine CAL 20 [.g (xQ b), .s (.int .i64 (modF n.1 2)), .s (.int .i64 (modF n.2.1 201)), .s (.int .i64 (nextX b (modF n.1 2) (modF n.2.1 201) (modF n.2.2.1 61)).1)] (.s (.bool (sureL b (modF n.1 2) (modF n.2.1 201) (nextX b (modF n.1 2) (modF n.2.1 201) (modF n.2.2.1 61)).1))) [(!(insideF (nextX b (modF n.1 2) (modF n.2.1 201) (modF n.2.2.1 61)).1 (modF n.2.2.1 61) 60), false)] (fun hG nV w h => sureL_calls (nV 0) (nV 1) (nV 2) (nV 3) (nV 4) b (modF n.1 2) (modF n.2.1 201) (nextX b (modF n.1 2) (modF n.2.1 201) (modF n.2.2.1 61)).1 w (h.rd 0 24) (h.rd 1 112) (h.rd 2 103) (h.rd 3 105) (h.rd 4 60) (h.ft 5 5) (h.ft 6 4) (h.ft 7 3) (h.ft 8 1) (h.ft 9 0) (h.ft 10 2) ) ?_
 refine WPO_run tt_ok 11 (by kernel_rfl) ?_
 refine CAL 20 [.g (xQ b), .s (.int .i64 (modF n.1 2)), .s (.int .i64 (modF n.2.1 201)), .s (.int .i64 (IntKind.i64.wrap ((modF n.2.2.1 61) + (modF n.2.2.2 (IntKind.i64.wrap ((IntKind.i64.wrap (60 - (modF n.2.2.1 61))) + 1))))))] (.s (.bool (sureL b (modF n.1 2) (modF n.2.1 201) (IntKind.i64.wrap ((modF n.2.2.1 61) + (modF n.2.2.2 (IntKind.i64.wrap ((IntKind.i64.wrap (60 - (modF n.2.2.1 61))) + 1)))))))) [(decide ((IntKind.i64.wrap ((modF n.2.2.1 61) + (modF n.2.2.2 (IntKind.i64.wrap ((IntKind.i64.wrap (60 - (modF n.2.2.1 61))) + 1))))) < (nextX b (modF n.1 2) (modF n.2.1 201) (modF n.2.2.1 61)).1), true), ((!(insideF (nextX b (modF n.1 2) (modF n.2.1 201) (modF n.2.2.1 61)).1 (modF n.2.2.1 61) 60)) || (!(sureL b (modF n.1 2) (modF n.2.1 201) (nextX b (modF n.1 2) (modF n.2.1 201) (modF n.2.2.1 61)).1)), false)] (fun hG nV w h => sureL_calls (nV 0) (nV 1) (nV 2) (nV 3) (nV 4) b (modF n.1 2) (modF n.2.1 201) (IntKind.i64.wrap ((modF n.2.2.1 61) + (modF n.2.2.2 (IntKind.i64.wrap ((IntKind.i64.wrap (60 - (modF n.2.2.1 61))) + 1))))) w (h.rd 0 24) (h.rd 1 112) (h.rd 2 103) (h.rd 3 105) (h.rd 4 60) (h.ft 5 5) (h.ft 6 4) (h.ft 7 3) (h.ft 8 1) (h.ft 9 0) (h.ft 10 2) ) ?_
 refine WPA tt_ok ?_
 refine WP_cond (((!(insideF (nextX b (modF n.1 2) (modF n.2.1 201) (modF n.2.2.1 61)).1 (modF n.2.2.1 61) 60)) || (!(sureL b (modF n.1 2) (modF n.2.1 201) (nextX b (modF n.1 2) (modF n.2.1 201) (modF n.2.2.1 61)).1))) || ((decide ((IntKind.i64.wrap ((modF n.2.2.1 61) + (modF n.2.2.2 (IntKind.i64.wrap ((IntKind.i64.wrap (60 - (modF n.2.2.1 61))) + 1))))) < (nextX b (modF n.1 2) (modF n.2.1 201) (modF n.2.2.1 61)).1)) && (sureL b (modF n.1 2) (modF n.2.1 201) (IntKind.i64.wrap ((modF n.2.2.1 61) + (modF n.2.2.2 (IntKind.i64.wrap ((IntKind.i64.wrap (60 - (modF n.2.2.1 61))) + 1)))))))) (by kernel_rfl) (fun hc8 => ?_) (fun hc8 => ?_)
 ·have hc8' := hc8; try simp only [bfs, ne_eq] at hc8'
  refine WSA tt_ok ?_
  refine WP_ret ?_
  exact ⟨.s (.bool false), by kernel_rfl, fun nV w' h => ⟨by rw [show CrossingNextL b n = false from by unfold CrossingNextL; simp only [hc2, hc4, hc6, hc8, cond_true, cond_false]]; rfl, h.bel⟩⟩
 have hc8' := hc8; try simp only [bfs, ne_eq] at hc8'
 refine WP_skip ?_
 refine WSR tt_ok 27 ?_
 refine CAL 14 [] (.s (.bool true)) [((((nextX b (modF n.1 2) (modF n.2.1 201) (IntKind.i64.wrap ((modF n.2.2.1 61) + (modF n.2.2.2 (IntKind.i64.wrap ((IntKind.i64.wrap (60 - (modF n.2.2.1 61))) + 1)))))).2 == 4) && (decide ((IntKind.i64.wrap ((modF n.2.2.1 61) + (modF n.2.2.2 (IntKind.i64.wrap ((IntKind.i64.wrap (60 - (modF n.2.2.1 61))) + 1))))) > (nextX b (modF n.1 2) (modF n.2.1 201) (modF n.2.2.1 61)).1))) || ((((nextX b (modF n.1 2) (modF n.2.1 201) (IntKind.i64.wrap ((modF n.2.2.1 61) + (modF n.2.2.2 (IntKind.i64.wrap ((IntKind.i64.wrap (60 - (modF n.2.2.1 61))) + 1)))))).2 == 0) && (decide ((nextX b (modF n.1 2) (modF n.2.1 201) (IntKind.i64.wrap ((modF n.2.2.1 61) + (modF n.2.2.2 (IntKind.i64.wrap ((IntKind.i64.wrap (60 - (modF n.2.2.1 61))) + 1)))))).1 ≥ (nextX b (modF n.1 2) (modF n.2.1 201) (modF n.2.2.1 61)).1))) && ((decide ((IntKind.i64.wrap ((modF n.2.2.1 61) + (modF n.2.2.2 (IntKind.i64.wrap ((IntKind.i64.wrap (60 - (modF n.2.2.1 61))) + 1))))) > (nextX b (modF n.1 2) (modF n.2.1 201) (modF n.2.2.1 61)).1)) || ((nextX b (modF n.1 2) (modF n.2.1 201) (IntKind.i64.wrap ((modF n.2.2.1 61) + (modF n.2.2.2 (IntKind.i64.wrap ((IntKind.i64.wrap (60 - (modF n.2.2.1 61))) + 1)))))).1 == (nextX b (modF n.1 2) (modF n.2.1 201) (modF n.2.2.1 61)).1))), true)] (fun _ nV w h => ferriedL_is hfe w (h.ft 5 5) (h.ft 6 4) (h.ft 7 3) (h.ft 8 1) (h.ft 9 0) (h.ft 10 2)) ?_
 refine WPA tt_ok ?_
 refine WP_ret ?_
 exact ⟨.s (.bool (((((nextX b (modF n.1 2) (modF n.2.1 201) (IntKind.i64.wrap ((modF n.2.2.1 61) + (modF n.2.2.2 (IntKind.i64.wrap ((IntKind.i64.wrap (60 - (modF n.2.2.1 61))) + 1)))))).2 == 4) && (decide ((IntKind.i64.wrap ((modF n.2.2.1 61) + (modF n.2.2.2 (IntKind.i64.wrap ((IntKind.i64.wrap (60 - (modF n.2.2.1 61))) + 1))))) > (nextX b (modF n.1 2) (modF n.2.1 201) (modF n.2.2.1 61)).1))) || ((((nextX b (modF n.1 2) (modF n.2.1 201) (IntKind.i64.wrap ((modF n.2.2.1 61) + (modF n.2.2.2 (IntKind.i64.wrap ((IntKind.i64.wrap (60 - (modF n.2.2.1 61))) + 1)))))).2 == 0) && (decide ((nextX b (modF n.1 2) (modF n.2.1 201) (IntKind.i64.wrap ((modF n.2.2.1 61) + (modF n.2.2.2 (IntKind.i64.wrap ((IntKind.i64.wrap (60 - (modF n.2.2.1 61))) + 1)))))).1 ≥ (nextX b (modF n.1 2) (modF n.2.1 201) (modF n.2.2.1 61)).1))) && ((decide ((IntKind.i64.wrap ((modF n.2.2.1 61) + (modF n.2.2.2 (IntKind.i64.wrap ((IntKind.i64.wrap (60 - (modF n.2.2.1 61))) + 1))))) > (nextX b (modF n.1 2) (modF n.2.1 201) (modF n.2.2.1 61)).1)) || ((nextX b (modF n.1 2) (modF n.2.1 201) (IntKind.i64.wrap ((modF n.2.2.1 61) + (modF n.2.2.2 (IntKind.i64.wrap ((IntKind.i64.wrap (60 - (modF n.2.2.1 61))) + 1)))))).1 == (nextX b (modF n.1 2) (modF n.2.1 201) (modF n.2.2.1 61)).1)))) || false)), by kernel_rfl, fun nV w' h => ⟨by rw [show CrossingNextL b n = (((((nextX b (modF n.1 2) (modF n.2.1 201) (IntKind.i64.wrap ((modF n.2.2.1 61) + (modF n.2.2.2 (IntKind.i64.wrap ((IntKind.i64.wrap (60 - (modF n.2.2.1 61))) + 1)))))).2 == 4) && (decide ((IntKind.i64.wrap ((modF n.2.2.1 61) + (modF n.2.2.2 (IntKind.i64.wrap ((IntKind.i64.wrap (60 - (modF n.2.2.1 61))) + 1))))) > (nextX b (modF n.1 2) (modF n.2.1 201) (modF n.2.2.1 61)).1))) || ((((nextX b (modF n.1 2) (modF n.2.1 201) (IntKind.i64.wrap ((modF n.2.2.1 61) + (modF n.2.2.2 (IntKind.i64.wrap ((IntKind.i64.wrap (60 - (modF n.2.2.1 61))) + 1)))))).2 == 0) && (decide ((nextX b (modF n.1 2) (modF n.2.1 201) (IntKind.i64.wrap ((modF n.2.2.1 61) + (modF n.2.2.2 (IntKind.i64.wrap ((IntKind.i64.wrap (60 - (modF n.2.2.1 61))) + 1)))))).1 ≥ (nextX b (modF n.1 2) (modF n.2.1 201) (modF n.2.2.1 61)).1))) && ((decide ((IntKind.i64.wrap ((modF n.2.2.1 61) + (modF n.2.2.2 (IntKind.i64.wrap ((IntKind.i64.wrap (60 - (modF n.2.2.1 61))) + 1))))) > (nextX b (modF n.1 2) (modF n.2.1 201) (modF n.2.2.1 61)).1)) || ((nextX b (modF n.1 2) (modF n.2.1 201) (IntKind.i64.wrap ((modF n.2.2.1 61) + (modF n.2.2.2 (IntKind.i64.wrap ((IntKind.i64.wrap (60 - (modF n.2.2.1 61))) + 1)))))).1 == (nextX b (modF n.1 2) (modF n.2.1 201) (modF n.2.2.1 61)).1)))) || false) from by unfold CrossingNextL; simp only [hc2, hc4, hc6, hc8, cond_true, cond_false]]; rfl, h.bel⟩⟩
def nxtA (S : Int → Bool) (m : Int) : Int × Int := match nxt S m with | some x => (x, 0) | none => (0, 4)
theorem nxtA_some {S : Int → Bool} {m x : Int} (h : nxt S m = some x) : nxtA S m = (x, 0) := by unfold nxtA; rw [h]
theorem nxtA_none {S : Int → Bool} {m : Int} (h : nxt S m = none) : nxtA S m = (0, 4) := by unfold nxtA; rw [h]
section
variable {b : XBook} (hb : ValidX b) {sh load m : Int} (h1 : 0 ≤ sh ∧ sh ≤ 1) (h2 : 0 ≤ load ∧ load ≤ 200) (h3 : 0 ≤ m ∧ m ≤ 60)
include hb h1 h2 h3
theorem nextX_T (hr : rightX b = true) : nextX b sh load m = nxtA (SX b sh load) m := by
 unfold nextX
 rw [foundU_T hb h1 h2 h3 hr, firstU_nxt h3.1]
 unfold nxtA
 cases nxt (SX b sh load) m <;> rfl
theorem nextX_F (hr : rightX b = false) : nextX b sh load m = (0, 92) := by
 unfold nextX; rw [foundU_F hb h1 h2 h3 hr]
end
theorem insideF_t {n lo hi : Int} (h : lo ≤ n ∧ n ≤ hi) : insideF n lo hi = true := by
 unfold insideF; simp only [Bool.and_eq_true, decide_eq_true_eq, ge_iff_le]; omega
theorem other_in {fr n : Int} (h : 0 ≤ fr ∧ fr ≤ 60) : fr ≤ IntKind.i64.wrap (fr + modF n (IntKind.i64.wrap (IntKind.i64.wrap (60 - fr) + 1))) ∧ IntKind.i64.wrap (fr + modF n (IntKind.i64.wrap (IntKind.i64.wrap (60 - fr) + 1))) ≤ 60 := by
 have w1 : IntKind.i64.wrap (60 - fr) = 60 - fr := wrapI (by omega) (by omega)
 have w2 : IntKind.i64.wrap (60 - fr + 1) = 60 - fr + 1 := wrapI (by omega) (by omega)
 rw [w1, w2]
 have := modF_in n (60 - fr + 1) (by omega) (by omega)
 rw [wrapI (by omega) (by omega)]
 omega
theorem CrossingNext_true (b : XBook) (n : Int × Int × Int × Int) : CrossingNextL b n = true := by
 unfold CrossingNextL
 cases hs : !(soundL b) with
 | true => rfl
 | false =>
  have hb := sound_valid hs
  have h1 := mod2 n.1
  have h2 := mod201 n.2.1
  have h3 := mod61 n.2.2.1
  have h4 := other_in (n := n.2.2.2) h3
  rw [cond_false, true2_eq hb]
  generalize modF n.1 2 = sh at *
  generalize modF n.2.1 201 = lo at *
  generalize hfr : modF n.2.2.1 61 = fr at *
  generalize IntKind.i64.wrap (fr + modF n.2.2.2 (IntKind.i64.wrap (IntKind.i64.wrap (60 - fr) + 1))) = ot at *
  have h5 : 0 ≤ ot ∧ ot ≤ 60 := ⟨by omega, h4.2⟩
  cases hr : rightX b with
  | false =>
   rw [nextX_F hb h1 h2 h3 hr, nextX_F hb h1 h2 h5 hr]
   rfl
  | true =>
   rw [nextX_T hb h1 h2 h3 hr, nextX_T hb h1 h2 h5 hr, sureL_T hb h1 h2 h5 hr]
   show _ = true
   have hso : sureX b (sh, ot) lo = SX b sh lo ot := rfl
   rw [hso]
   simp only [Bool.not_true, cond_false, Bool.or_false]
   cases hf : nxt (SX b sh lo) fr with
   | none =>
    have hn := nxt_none.1 hf
    have ho : nxt (SX b sh lo) ot = none := nxt_none.2 fun y h0 h6 h7 => hn y h0 (by omega) h7
    rw [nxtA_none hf, nxtA_none ho, hn ot h5.1 h4.1 h5.2]
    rfl
   | some x =>
    obtain ⟨⟨hx1, hx2⟩, hx3, hx4⟩ := nxt_some.1 hf
    rw [nxtA_some hf]
    simp only [show ((0 : Int) != 0) = false from rfl, cond_false]
    rw [insideF_t ⟨hx2, hx1.2⟩, sureL_T hb h1 h2 hx1 hr, show sureX b (sh, x) lo = SX b sh lo x from rfl, hx3]
    have hnot : (decide (ot < x) && SX b sh lo ot) = false := by
     cases h6 : decide (ot < x) with
     | false => rfl
     | true => rw [hx4 ot h5.1 h4.1 (of_decide_eq_true h6)]; rfl
    rw [hnot]
    simp only [Bool.not_true, Bool.or_false, cond_false]
    cases ho : nxt (SX b sh lo) ot with
    | none =>
     rw [nxtA_none ho]
     have : ot > x := by
      apply Classical.byContradiction
      intro h6
      have := nxt_none.1 ho x hx1.1 (by omega) hx1.2
      rw [hx3] at this; cases this
     rw [decide_eq_true this]; rfl
    | some y =>
     obtain ⟨⟨hy1, hy2⟩, hy3, hy4⟩ := nxt_some.1 ho
     rw [nxtA_some ho]
     have h7 : x ≤ y := by
      apply Classical.byContradiction
      intro h6
      have := hx4 y hy1.1 (by omega) (by omega)
      rw [hy3] at this; cases this
     by_cases h8 : ot > x
     ·simp [h8, h7]
     have h9 : y = x := by
      apply Classical.byContradiction
      intro h6
      have := hy4 x hx1.1 (by omega) (by omega)
      rw [hx3] at this; cases this
     simp [h9]
section
variable {b : XBook} (hb : ValidX b)
include hb
theorem planA_T (hr : rightX b = true) : planA b = if (goB b).length < b.trips.length then ([], 4) else ((goB b).map Prod.snd, 0) := by
 unfold planA plnX
 rw [err_valid hb, hr, plan_go hb, List.length_map]
 by_cases h : (goB b).length < b.trips.length
 ·rw [if_pos h, decide_eq_true (by omega)]; rfl
 rw [if_neg h, decide_eq_false (by omega)]; rfl
theorem waitsA_T (hr : rightX b = true) : waitsA b = if (goB b).length < b.trips.length then (0, 4) else (sumW (goB b), 0) := by
 unfold waitsA plnX
 rw [err_valid hb, hr, plan_go hb, List.length_map]
 by_cases h : (goB b).length < b.trips.length
 ·rw [if_pos h, decide_eq_true (by omega)]; rfl
 rw [if_neg h, decide_eq_false (by omega)]; rfl
theorem manyA_T (hr : rightX b = true) : manyA b = (((goB b).length : Int), 0) := by
 unfold manyA
 rw [err_valid hb, hr, plan_go hb, List.length_map]; rfl
end
theorem goB_len {b : XBook} : (goB b).length ≤ b.trips.length := goT_len _ _ _ _ _ _
theorem loopR_last {ρ : Type} {c : Nat → Int → Bool} {b : Nat → Int → Bd Int ρ} {N : Nat} (bad : Nat → Bool) (hc : ∀ k v, k < N → c k v = true) (hb : ∀ k v, k < N → b k v = bif bad k then .brk v else .go (k : Int)) :
  loopR c b N 0 0 = .brk (((match (List.range N).find? bad with | some k => k - 1 | none => N - 1 : Nat)) : Int) := by
 have key : ∀ (m k : Nat), k + m = N → (∀ j, j < k → bad j = false) → loopR c b (N - k) k (((k - 1 : Nat)) : Int) = .brk (((match (List.range N).find? bad with | some k => k - 1 | none => N - 1 : Nat)) : Int) := by
  intro m
  induction m with
  | zero =>
   intro k h hj
   have hn : (List.range N).find? bad = none := List.find?_eq_none.2 fun x hx => by rw [hj x (by have := List.mem_range.1 hx; omega)]; decide
   rw [hn, show N - k = 0 by omega, show k = N by omega]; rfl
  | succ m ih =>
   intro k h hj
   rw [loopR_step (by omega) (hc k _ (by omega)), hb k _ (by omega)]
   cases hbk : bad k with
   | true =>
    have hs : (List.range N).find? bad = some k := by
     rw [List.find?_range_eq_some]
     exact ⟨hbk, List.mem_range.2 (by omega), fun j hj' => by rw [hj j hj']; rfl⟩
    rw [hs]; rfl
   | false =>
    have := ih (k + 1) (by omega) (fun j hj' => by
     rcases Nat.lt_succ_iff_lt_or_eq.1 hj' with h1 | rfl
     ·exact hj j h1
     exact hbk)
    exact this
 exact key N 0 (by omega) (fun j h => by omega)
abbrev dl (b : XBook) (t : Nat) (k : Int) : XBook := ⟨b.lan, b.fw, b.each, b.shore, b.turn, b.trips.set t ⟨(b.trips.getD t zTrip).load, (b.trips.getD t zTrip).ready + k⟩⟩
theorem dl_valid {b : XBook} (hb : ValidX b) {t : Nat} (ht : t < b.trips.length) {k : Int} (h1 : 0 ≤ (b.trips.getD t zTrip).ready + k) (h2 : (b.trips.getD t zTrip).ready + k ≤ 60) : ValidX (dl b t k) := by
 refine ⟨hb.lan, hb.fw, hb.each, hb.shore, hb.turn, by simp only [dl, List.length_set]; exact hb.nt, fun x hx => ?_⟩
 rcases List.mem_or_eq_of_mem_set hx with h | rfl
 ·exact hb.trips x h
 exact ⟨(hb.trips _ (getD_mem (z := zTrip) ht)).1, h1, h2⟩
def lastG (b : XBook) : Int := ((goB b).map Prod.snd).getD (b.trips.length - 1) 0
def badK (b : XBook) (t : Nat) (k : Nat) : Bool := decide ((goB (dl b t k)).length < b.trips.length) || decide (lastG (dl b t k) > lastG b)
section
variable {b : XBook} (hb : ValidX b) (hr : rightX b = true) (hg : (goB b).length = b.trips.length) {t : Nat} (ht : t < b.trips.length)
include hb hr hg ht
theorem late_spec : lateA b (t : Int) = ((((match (List.range (61 - (b.trips.getD t zTrip).ready).toNat).find? (badK b t) with | some k => k - 1 | none => (61 - (b.trips.getD t zTrip).ready).toNat - 1 : Nat)) : Int), 0) := by
 have hnt := hb.nt
 have hrd := (hb.trips _ (getD_mem (z := zTrip) ht)).2
 have hw : IntKind.i64.wrap ((b.trips.length : Int) - 1) = (b.trips.length : Int) - 1 := wrapI (by omega) (by omega)
 have hin : withinX (t : Int) 0 ((b.trips.length : Int) - 1) = true := by unfold withinX; simp only [Bool.and_eq_true, decide_eq_true_eq]; omega
 have hp : plnX b = ((goB b).map Prod.snd, sumW (goB b), 0) := by
  unfold plnX
  rw [plan_go hb, List.length_map, decide_eq_false (by omega)]; rfl
 have htn : ((t : Int)).toNat = t := by omega
 unfold lateA
 rw [hw, hin, err_valid hb, hr, hp, htn]
 simp only [if_true, beq_self_eq_true, cond_true, bne_self_eq_false, cond_false]
 rw [loopR_last (badK b t) (fun k v hk => ?_) (fun k v hk => ?_)]
 ·simp only [lateA_c1, htn]
  rw [show IntKind.i64.wrap (60 - (b.trips.getD t zTrip).ready) = 60 - (b.trips.getD t zTrip).ready from wrapI (by omega) (by omega), wrapI (by omega) (by omega), decide_eq_true]
  omega
 have hk2 : (b.trips.getD t zTrip).ready + (k : Int) ≤ 60 := by omega
 have hv := dl_valid hb ht (k := (k : Int)) (by omega) hk2
 have hpx := plan_go hv
 have hln := goB_len (b := dl b t k)
 simp only [dl, List.length_set] at hln
 simp only [lateA_b1, htn, hp]
 rw [show IntKind.i64.wrap ((b.trips.getD t zTrip).ready + (k : Int)) = (b.trips.getD t zTrip).ready + (k : Int) from wrapI (by omega) (by omega)]
 rw [show planX (⟨b.lan, b.fw, b.each, b.shore, b.turn, b.trips.set t (⟨(b.trips.getD t zTrip).load, (b.trips.getD t zTrip).ready + (k : Int)⟩ : Trip)⟩ : XBook) = _ from hpx]
 simp only [List.length_map]
 rw [hg, show IntKind.i64.wrap ((b.trips.length : Int) - 1) = (b.trips.length : Int) - 1 from hw, show ((b.trips.length : Int) - 1).toNat = b.trips.length - 1 by omega]
 unfold badK lastG
 simp only [dl, List.length_set]
 congr 2
 rw [Bool.eq_iff_iff]
 simp only [decide_eq_true_eq]
 omega
end
def TT (sh load m : Int) : Bool := (if sh = 0 then ([18, 19, 30, 31, 32, 33, 34] : List Int) else [25, 26, 27, 28, 29, 30, 31, 32, 33, 34]).contains m
theorem own_check : checkX ownL = 0 := by kernel_rfl
theorem own_right : rightX ownL = true := by kernel_rfl
theorem own_table : ((List.range 61).all fun y : Nat => (List.range 2).all fun s : Nat => ([20, 0] : List Int).all fun l => SX ownL (s : Int) l (y : Int) == TT (s : Int) l (y : Int)) = true := by kernel_rfl
theorem own_SX {sh load m : Int} (h1 : 0 ≤ sh ∧ sh ≤ 1) (h2 : load = 20 ∨ load = 0) (h3 : 0 ≤ m ∧ m ≤ 60) : SX ownL sh load m = TT sh load m := by
 have := List.all_eq_true.1 own_table m.toNat (List.mem_range.2 (by omega))
 have := List.all_eq_true.1 this sh.toNat (List.mem_range.2 (by omega))
 have := List.all_eq_true.1 this load (by rcases h2 with rfl | rfl <;> simp)
 rw [beq_iff_eq, show ((sh.toNat : Nat) : Int) = sh by omega, show ((m.toNat : Nat) : Int) = m by omega] at this
 exact this
theorem own_go (k : Int) : goB (dl ownL 1 k) = goT TT 5 2 [⟨20, 0⟩, ⟨20, 0 + k⟩, ⟨0, 30⟩] 0 0 := by
 refine goT_congr (S := SX ownL) (T := TT) (cr := 5) (turn := 2) [⟨20, 0⟩, ⟨20, 0 + k⟩, ⟨0, 30⟩] 0 0 ⟨by decide, by decide⟩ (fun x hx sh h1 h2 y h3 h4 => own_SX ⟨h1, h2⟩ ?_ ⟨h3, h4⟩)
 simp only [List.mem_cons, List.not_mem_nil, or_false] at hx
 rcases hx with rfl | rfl | rfl
 ·exact .inl rfl
 ·exact .inl rfl
 exact .inr rfl
theorem own_go0 : goB ownL = [(0, 18), (25, 25), (32, 32)] := by
 have e : goT TT 5 2 [⟨20, 0⟩, ⟨20, 0 + 0⟩, ⟨0, 30⟩] 0 0 = [(0, 18), (25, 25), (32, 32)] := by kernel_rfl
 exact Eq.trans (own_go 0) e
def badT (k : Nat) : Bool := decide ((goT TT 5 2 [⟨20, 0⟩, ⟨20, 0 + (k : Int)⟩, ⟨0, 30⟩] 0 0).length < 3) || decide (((goT TT 5 2 [⟨20, 0⟩, ⟨20, 0 + (k : Int)⟩, ⟨0, 30⟩] 0 0).map Prod.snd).getD 2 0 > 32)
theorem own_bad (k : Nat) : badK ownL 1 k = badT k := by
 unfold badK lastG
 rw [own_go, own_go0]
 rfl
theorem own_late : lateA ownL 1 = (25, 0) := by
 have h := late_spec (checkX_valid.1 own_check) own_right (show (goB ownL).length = ownL.trips.length by rw [own_go0]; rfl) (t := 1) (by decide)
 have hf : (List.range (61 - (ownL.trips.getD 1 zTrip).ready).toNat).find? (badK ownL 1) = some 26 := by
  rw [show badK ownL 1 = badT from funext own_bad]
  kernel_rfl
 rw [hf] at h
 exact h
theorem own_sure : sureA ownL 0 20 18 = (2, 0) := by kernel_rfl
theorem own_next : nextX ownL 0 20 20 = (30, 0) := by kernel_rfl
theorem own_last : lastX ownL 0 20 29 = (19, 0) := by kernel_rfl
theorem own_plan : planA ownL = ([18, 25, 32], 0) := by
 rw [planA_T (checkX_valid.1 own_check) own_right, own_go0]; rfl
theorem own_waits : waitsA ownL = (18, 0) := by
 rw [waitsA_T (checkX_valid.1 own_check) own_right, own_go0]; rfl
theorem heavy_go : goB heavyL = [(0, 18), (25, 25)] := by
 have hc : checkX heavyL = 0 := by kernel_rfl
 have hp : planX heavyL = ([18, 25], 18) := by kernel_rfl
 have hg := plan_go (checkX_valid.1 hc)
 rw [hp] at hg
 have h1 : goT (SX heavyL) 5 2 [⟨20, 0⟩, ⟨20, 0⟩] 0 0 = [(0, 18), (25, 25)] := by
  have := goT_congr (S := SX ownL) (T := TT) (cr := 5) (turn := 2) [⟨20, 0⟩, ⟨20, 0⟩] 0 0 ⟨by decide, by decide⟩ (fun x hx sh h1 h2 y h3 h4 => own_SX ⟨h1, h2⟩ (by
   simp only [List.mem_cons, List.not_mem_nil, or_false] at hx
   rcases hx with rfl | rfl <;> exact .inl rfl) ⟨h3, h4⟩)
  have e : goT TT 5 2 [⟨20, 0⟩, ⟨20, 0⟩] 0 0 = [(0, 18), (25, 25)] := by kernel_rfl
  exact Eq.trans this e
 have hl : (goB heavyL).length = 2 := by
  have := congrArg (fun x : List Int × Int => x.1.length) hg
  simpa using this.symm
 have ht := h1
 have key : (goB heavyL).take 2 = goT (SX heavyL) 5 2 [⟨20, 0⟩, ⟨20, 0⟩] 0 0 := (goT_takeH).symm
 rw [← h1, ← key, List.take_of_length_le (by omega)]
where
 goT_takeH : goT (SX heavyL) 5 2 [⟨20, 0⟩, ⟨20, 0⟩] 0 0 = (goB heavyL).take 2 := by
  unfold goB
  show goT (SX heavyL) 5 2 [⟨20, 0⟩, ⟨20, 0⟩] 0 0 = (goT (SX heavyL) 5 2 [⟨20, 0⟩, ⟨20, 0⟩, ⟨60, 30⟩] 0 0).take 2
  simp only [goT]
  split
  ·rfl
  split
  ·rfl
  split <;> rfl
theorem heavy_many : manyA heavyL = (2, 0) := by
 have hc : checkX heavyL = 0 := by kernel_rfl
 rw [manyA_T (checkX_valid.1 hc) (show rightX heavyL = true from own_right), heavy_go]; rfl
theorem heavy_plan : planA heavyL = ([], 4) := by
 have hc : checkX heavyL = 0 := by kernel_rfl
 rw [planA_T (checkX_valid.1 hc) (show rightX heavyL = true from own_right), heavy_go]; rfl
theorem single_ship : shipA singleL = (1, 0) := by kernel_rfl
theorem ferriedL_true : ferriedL = true := by
 unfold ferriedL
 rw [own_sure, own_next, own_last, own_plan, own_waits, heavy_many, own_late, single_ship, heavy_plan]
 kernel_rfl
end Go.Proofs.YtpfglknbkpcfnaaDoor.X
namespace Go.Proofs.YtpfglknbkpcfnaaDoor.X
open Go Go.ChangeShapes Go.WideShapes Go.RowKit Go.Proofs.YtpfglknbkpcfnaaDoor.Eng Go.Proofs.YtpfglknbkpcfnaaDoor.Fw
set_option maxRecDepth 100000
namespace CrossingNext
theorem door_met_crossingNext (os : Os) (args : Array Value) : laidMetH Tryd.prog Rows.crossingNextRow.laid ((World.doorLaid Tryd.prog 60 os).forCall (fun _ _ => 0) ⟨#[], args, []⟩).memory :=
 laidMetH_of_parts3 (fuel := 8) (laidMet_of_run' 8 (by kernel_rfl) (by kernel_rfl)) (by kernel_rfl) (by kernel_rfl)
theorem contract (H : Type) (enc : TypeId × Value → H) (W : World) (base : Nat) (args : Array Value) (ds gs : List (DataW H)) (before : List MemPlace)
  (hval : ∀ (j : Nat) t v, Tryd.f4.params[j]? = some t → args[j]? = some v → Value.okWide Tryd.prog W .any base t v)
  (hW : DataW.Whole enc Tryd.prog Tryd.f4.params.toList Rows.crossingNextSpec.vars false W args.toList ds gs before)
  (hsz0 : (DataW.weightsEach Tryd.prog (Tryd.f4.params.toList ++ []) (ds ++ gs)).all (fun x => decide (x ≤ reachBytes)) = true) (hL : laidMetH Tryd.prog Rows.crossingNextRow.laid W) (hS : W.ShapedOpen Tryd.prog) :
  Calls Tryd.prog 4 args W fun e W' => ∃ v, e = .returned v ∧ Rows.crossingNextSpec.post enc Tryd.prog Tryd.f4 false true false false W args v W' := by
 have hW' := hW
 obtain ⟨p, q, hA0, hV, rfl, hfz, hnd⟩ := hW
 have hA : DataW.TrodAll enc Tryd.prog W 0 (fun _ => true) true Tryd.f4.params.toList args.toList ds p := hA0
 rw [Tryd.params4] at hA hval hsz0
 clear hA0
 obtain ⟨v0, vs0, d0, ds0, p0, q0, hargs, rfl, rfl, h0, r0⟩ := trodAll_cons hA
 obtain ⟨v1, vs1, d1, ds1, p1, q1, rfl, rfl, rfl, h1, r1⟩ := trodAll_cons r0
 obtain ⟨rfl, rfl, rfl⟩ := trodAll_nil r1
 obtain rfl : args = #[v0, v1] := by apply Array.ext'; rw [hargs]
 obtain ⟨rfl, rfl⟩ := trodVars_none hV
 have hsz : (DataW.weightsEach Tryd.prog [37, 47] [d0, d1]).all (fun x => decide (x ≤ reachBytes)) = true := by simpa using hsz0
 have hb0 : Wb Tryd.prog 37 d0 := Bd_each hsz (j := 0) rfl rfl
 obtain ⟨c0, rfl, ⟨g0_0, g0_1, g0_2, g0_3, g0_4, x0, y0, q0_0, q0_1, q0_2, q0_3, q0_4, q0_5, q0_6, q0_7, q0_8, q0_9, q0_10, q0_11, q0_12, q0_13, q0_14, q0_15, q0_16, q0_17, q0_18, q0_19, q0_20, q0_21, q0_22, q0_23, q0_24, _⟩⟩ := arg_agg Tryd.underlying37 (hval 0 37 v0 rfl rfl) h0 hb0 opn37
 rw [agg_of y0] at *
 have hb1 : Wb Tryd.prog 47 d1 := Bd_each hsz (j := 1) rfl rfl
 obtain ⟨c1, rfl, ⟨x1, y1, q1_0, q1_1, q1_2, q1_3, _⟩⟩ := arg_arr Tryd.underlying47 (hval 1 47 v1 rfl rfl) h1 hb1 opn47
 rw [agg_of y1] at *
 have ha := cx_of hS hL
 have hc := CrossingNextL_calls g0_0 g0_1 g0_2 g0_3 g0_4 x0 x1 W q0_0.1 q0_1.1 q0_2.1 q0_3.1 q0_4.1 ha.1 ha.2.1 ha.2.2.1 ha.2.2.2.1 ha.2.2.2.2.1 ha.2.2.2.2.2 ferriedL_true
 refine hc.mono fun e W' ⟨he, hb⟩ => ?_
 refine ⟨.bool true, he.trans (by rw [CrossingNext_true x0 x1]), law_post laidOut (fun u hu => ?_) hW' rfl (by kernel_rfl) Tryd.underlying4 rfl rfl rfl hb⟩
 have hall : ([37, 47] : List TypeId).all (fun u => Tryd.prog.readableRec u && decide (u < Tryd.prog.types.size)) = true := by kernel_rfl
 have hu' : u ∈ ([37, 47] : List TypeId) := hu
 have := List.all_eq_true.1 hall u hu'
 simp only [Bool.and_eq_true, decide_eq_true_eq] at this
 exact this
theorem reads (os : Os) {H : Type} (enc : TypeId × Value → H) : ∃ places, DataW.whole enc Tryd.prog ((World.doorLaid Tryd.prog 60 os).forCall (fun _ _ => 0) ⟨#[], #[.agg #[.slice none 0 0, .int .i64 0, .int .i64 0, .int .i64 0, .int .i64 0, .int .i64 0, .int .i64 0, .int .i64 0, .int .i64 0, .int .i64 0, .int .i64 0, .int .i64 0, .int .i64 0, .slice none 0 0, .slice none 0 0, .int .i64 0, .int .i64 0, .int .i64 0, .int .i64 0, .int .i64 0, .slice none 0 0, .int .i64 0, .int .i64 0, .int .i64 0, .slice none 0 0], .agg #[.int .i64 0, .int .i64 0, .int .i64 0, .int .i64 0]], []⟩).memory Tryd.f4.params.toList Rows.crossingNextSpec.vars false (#[.agg #[.slice none 0 0, .int .i64 0, .int .i64 0, .int .i64 0, .int .i64 0, .int .i64 0, .int .i64 0, .int .i64 0, .int .i64 0, .int .i64 0, .int .i64 0, .int .i64 0, .int .i64 0, .slice none 0 0, .slice none 0 0, .int .i64 0, .int .i64 0, .int .i64 0, .int .i64 0, .int .i64 0, .slice none 0 0, .int .i64 0, .int .i64 0, .int .i64 0, .slice none 0 0], .agg #[.int .i64 0, .int .i64 0, .int .i64 0, .int .i64 0]] : Array Value).toList 8 = some ([.agg [.agg [.nil, .agg [.agg [.agg [.lit (.int .i64 0), .lit (.int .i64 0)], .lit (.int .i64 0), .lit (.int .i64 0)], .agg [.agg [.lit (.int .i64 0), .lit (.int .i64 0)], .lit (.int .i64 0), .lit (.int .i64 0)]], .agg [.lit (.int .i64 0), .lit (.int .i64 0)], .lit (.int .i64 0), .lit (.int .i64 0), .nil], .agg [.nil, .agg [.lit (.int .i64 0), .lit (.int .i64 0)], .lit (.int .i64 0), .lit (.int .i64 0), .lit (.int .i64 0), .nil], .lit (.int .i64 0), .lit (.int .i64 0), .lit (.int .i64 0), .nil], .agg [.lit (.int .i64 0), .lit (.int .i64 0), .lit (.int .i64 0), .lit (.int .i64 0)]], [], places) :=
 ⟨[], by kernel_rfl⟩
set_option maxRecDepth 100000 in
theorem lifted (os : Os) (started : os.Started) (H : Type) (enc : TypeId × Value → H) (F : Stop.Interp) :
  ReturnsInHanded {} Tryd.checked os 4 .any ((OpenSpec.ofChange Rows.crossingNextSpec).preRow enc Tryd.prog Tryd.f4 Rows.crossingNextRow.domain false Rows.crossingNextRow.laid) (((OpenSpec.ofChange Rows.crossingNextSpec).at F).post enc Tryd.prog Tryd.f4 false true false false) := by
 obtain ⟨places, hx⟩ := reads os enc
 refine returnsInHanded_of_row (C := Tryd.checked) (s := OpenSpec.ofChange Rows.crossingNextSpec) own started (by kernel_rfl) Tryd.func4
  (witness_row_atRef (enc := enc) (C := Tryd.checked) false (World.doorLaid Tryd.prog 60 os) #[.agg #[.slice none 0 0, .int .i64 0, .int .i64 0, .int .i64 0, .int .i64 0, .int .i64 0, .int .i64 0, .int .i64 0, .int .i64 0, .int .i64 0, .int .i64 0, .int .i64 0, .int .i64 0, .slice none 0 0, .slice none 0 0, .int .i64 0, .int .i64 0, .int .i64 0, .int .i64 0, .int .i64 0, .slice none 0 0, .int .i64 0, .int .i64 0, .int .i64 0, .slice none 0 0], .agg #[.int .i64 0, .int .i64 0, .int .i64 0, .int .i64 0]] rfl (by kernel_rfl) (by kernel_rfl) (by kernel_rfl)
   (OpenSpec.preRow_of_cond 8 hx (by kernel_rfl) (fun k hk => by cases hk) (by kernel_rfl) (door_met_crossingNext os _))) ?_
 intro W base args ds gs before hval hW _ hcond hsz hL hS _
 exact contract H enc W base args ds gs before hval hW hsz hL hS
theorem said : Rows.CrossingNextSaid :=
 OpenClaim.holds_of_cond 4 Tryd.f4 rfl rfl rfl rfl rfl rfl rfl ⟨rfl, rfl, rfl, rfl, rfl⟩ rfl rfl rfl rfl rfl (by kernel_rfl) Tryd.func4 (by kernel_rfl)
  (of_decide_eq_true (by kernel_rfl)) (by unfold Func.isWrapper; first | (rw [if_pos (by decide +kernel)]; kernel_rfl) | (rw [if_neg (by decide +kernel)]; exact ⟨rfl, rfl⟩))
  (fun os started H enc _ F => by rw [OpenClaim.pre_eq_preRow]; exact lifted os started H enc F)
theorem plain (f : FuncId) (fn : Func) (hf : Tryd.pinned.checked.prog.funcNamed "prow/prowlaw09.CrossingNext" = some f) (hfn : Tryd.pinned.checked.prog.funcs[f]? = some fn) :
  false = Tryd.pinned.checked.prog.looks [] ∧ ∀ (j : Nat) t, fn.params[j]? = some t → Tryd.pinned.checked.prog.wantsStandIn t = false := by
 obtain rfl : f = 4 := Option.some.inj ((show Tryd.prog.funcNamed "prow/prowlaw09.CrossingNext" = some 4 by kernel_rfl).symm.trans hf) |>.symm
 obtain rfl : fn = Tryd.f4 := (Option.some.inj (Tryd.func4.symm.trans hfn)).symm
 refine ⟨by kernel_rfl, fun j t ht => ?_⟩
 rw [Tryd.params4] at ht
 have hm : t ∈ ([37, 47] : List TypeId) := by simpa using Array.mem_of_getElem? ht
 have hall : (([37, 47] : List TypeId).all fun u => !Tryd.prog.wantsStandIn u) = true := by kernel_rfl
 exact (show Tryd.prog.wantsStandIn t = false by simpa using List.all_eq_true.1 hall t hm)
theorem card : Rows.CrossingNextCardSaid :=
 Claim7.holds_tied_plain_at .later [] _ _ _ _ said (fun _ h => by cases h) (by kernel_rfl) (fun _ h => by cases h) crossingNext_row_tie rfl ⟨rfl, rfl⟩ (by kernel_rfl) rfl plain (by kernel_rfl)
end CrossingNext
end Go.Proofs.YtpfglknbkpcfnaaDoor.X
theorem Go.Proofs.YtpfglknbkpcfnaaDoor.crossingNext_holds : Go.Proofs.YtpfglknbkpcfnaaDoor.Rows.CrossingNextCardSaid := Go.Proofs.YtpfglknbkpcfnaaDoor.X.CrossingNext.card
