/-
  FairwayFrees: for every book the law returns true, and leaves the book as it was. Conditions: none but the row's own.
-/
import Derived.Test.YtamimgmoomcipaaDoorFairwayFreesA3
import Derived.ArgAppend
import Derived.Below
import Derived.Carry
import Derived.ChangeKeysEq
import Derived.ControlIn
import Derived.Deep.DeepHandedRow
import Derived.Deep.DeepWitnessRowRef
import Derived.Deep.Draws
import Derived.Deep.Quiet
import Derived.Deep.Slices
import Derived.KernelRfl
import Derived.LaidMore
import Derived.Laws.AppendOwn
import Derived.Laws.Cells
import Derived.Laws.CopyRow
import Derived.Laws.IdiomRangeMap
import Derived.Laws.Rows
import Derived.MapKept
import Derived.Maps.AppendAt
import Derived.OpenShut
import Derived.OrdersHeld
import Derived.OrdersIn
import Derived.ProofKit
import Derived.RangeFuncLeaves
import Derived.RangeFuncNested
import Derived.RangeFuncOwn
import Derived.SevenTiedAt
import Derived.SizedLaws
import Derived.Stop.Joined
import Derived.Test.YtamimgmoomcipaaDoorCards
import Derived.Test.YtamimgmoomcipaaDoorProg
import Derived.Test.YtamimgmoomcipaaDoorRows
import Derived.Test.YtamimgmoomcipaaDoorTie
import Derived.WalkKit
import Derived.WideKeyRuns
namespace Go.Proofs.YtamimgmoomcipaaDoor.Lw
open Go Go.RowKit Go.Proofs.YtamimgmoomcipaaDoor.Eng Go.Proofs.YtamimgmoomcipaaDoor.Fw Go.Proofs.YtamimgmoomcipaaDoor.Rf
set_option linter.unusedVariables false
set_option linter.unusedSimpArgs false
theorem ownShips_calls (g : Value) (l : List Ship) (w : World) (r : Reads w g 5 l encShip zShip) (hL : l.length * 40 ≤ 140737488355328) : Calls Tryd.prog 56 #[g] w fun e w' => ∃ v0, e = .returned v0 ∧ Below w.heap.size w w' ∧ fineRs w.heap.size w' [⟨65, 5, _, l, encShip, zShip⟩] [v0] ∧ apartL [⟨65, 5, _, l, encShip, zShip⟩] [v0] := by
  have hl := Reads.len r
  have hcut : cut l 0 0 = [] := by simp [cut]
  refine calls_of_WP (cx := cx0 w (vn [g]) 1) (n := vn [g]) (vs := [.s (.ref 0)]) (hp := [(0, .sl .ro 65 5 l encShip zShip)]) (nx := 1) tt_ok Tryd.func56 rfl rfl rfl (by kernel_rfl) (HSat_args (vn_one (by simp [r.one])) (Nat.le_refl _) ⟨⟨⟨fun _ => rfl, by decide, r⟩, (Nat.le_of_ble_eq_true rfl)⟩, trivial⟩) (vsOk (by kernel_rfl)) ?_
  refine WP_seq (WP_region (WPO_all tt_ok (by kernel_rfl) ?_))
  refine WP_seq (WP_region (WPO_run tt_ok 1 (by kernel_rfl) ?_))
  refine SLC tt_ok 0 l.length .ro 65 5 0 0 (some 0) .full (some 4) (by kernel_rfl) (by kernel_rfl) ⟨by omega, by omega, by omega⟩ (.inr ⟨rfl, rfl⟩) ?_
  refine WPO_run tt_ok 1 (by kernel_rfl) ?_
  cases hll : l with
  | nil =>
    subst hll
    refine APPE tt_ok (.s (.ref 1)) (.s (.ref 0)) 22 65 (some 6) (by kernel_rfl) (by kernel_rfl) (by kernel_rfl) (by kernel_rfl) (by kernel_rfl) (by kernel_rfl) (by kernel_rfl) ?_
    refine WPO_all tt_ok (by kernel_rfl) ?_
    refine WP_ret ?_
    exact ⟨.s (.ref 1), by kernel_rfl, fun nV w' h => ⟨nV 1, rfl, h.bel, ⟨⟨hcut ▸ h.reads (id := 1) (kd := .full) (e := 65) (by kernel_rfl), fun g hg hp => absurd hp (by simp)⟩, trivial⟩, ⟨trivial, trivial⟩⟩⟩
  | cons x0 xr =>
    rw [← hll]
    have hpos : 0 < l.length := by rw [hll]; simp
    refine APP tt_ok (.s (.ref 1)) (.s (.ref 0)) 22 65 (some 6) 5 (cut l 0 0) l encShip zShip (by kernel_rfl) (by kernel_rfl) (by kernel_rfl) (by kernel_rfl) (.inr (.inr ⟨1, rfl, (by kernel_rfl)⟩)) (.inr ⟨0, .ro, rfl, (by kernel_rfl), hpos⟩) (by rw [hll]; simp) (fun y => rfl) (fun y => List.all_eq_true.1 rfl) (fun i hi => (by have hby : (tyL tt 65).map (·.bytes) = some 40 := (by kernel_rfl); rw [hi] at hby; simp only [Option.map_some, Option.some.injEq] at hby; rw [hby, hcut]; simp only [List.length_nil, Nat.zero_add]; omega)) ?_
    refine WPO_all tt_ok (by kernel_rfl) ?_
    refine WP_ret ?_
    exact ⟨.s (.ref 2), by kernel_rfl, fun nV w' h => ⟨nV 2, rfl, h.bel, ⟨by have h5 := own_lt (id := 2) (e := 65) (sz := 5) (li := cut l 0 0 ++ l) (enc := encShip) (z := zShip) h (by kernel_rfl); rw [hcut, List.nil_append] at h5; exact h5, trivial⟩, ⟨trivial, trivial⟩⟩⟩
theorem ownSights_calls (g : Value) (l : List Sight) (w : World) (r : Reads w g 4 l encSight zSight) (hL : l.length * 32 ≤ 140737488355328) : Calls Tryd.prog 57 #[g] w fun e w' => ∃ v0, e = .returned v0 ∧ Below w.heap.size w w' ∧ fineRs w.heap.size w' [⟨70, 4, _, l, encSight, zSight⟩] [v0] ∧ apartL [⟨70, 4, _, l, encSight, zSight⟩] [v0] := by
  have hl := Reads.len r
  have hcut : cut l 0 0 = [] := by simp [cut]
  refine calls_of_WP (cx := cx0 w (vn [g]) 1) (n := vn [g]) (vs := [.s (.ref 0)]) (hp := [(0, .sl .ro 70 4 l encSight zSight)]) (nx := 1) tt_ok Tryd.func57 rfl rfl rfl (by kernel_rfl) (HSat_args (vn_one (by simp [r.one])) (Nat.le_refl _) ⟨⟨⟨fun _ => rfl, by decide, r⟩, (Nat.le_of_ble_eq_true rfl)⟩, trivial⟩) (vsOk (by kernel_rfl)) ?_
  refine WP_seq (WP_region (WPO_all tt_ok (by kernel_rfl) ?_))
  refine WP_seq (WP_region (WPO_run tt_ok 1 (by kernel_rfl) ?_))
  refine SLC tt_ok 0 l.length .ro 70 4 0 0 (some 0) .full (some 4) (by kernel_rfl) (by kernel_rfl) ⟨by omega, by omega, by omega⟩ (.inr ⟨rfl, rfl⟩) ?_
  refine WPO_run tt_ok 1 (by kernel_rfl) ?_
  cases hll : l with
  | nil =>
    subst hll
    refine APPE tt_ok (.s (.ref 1)) (.s (.ref 0)) 25 70 (some 6) (by kernel_rfl) (by kernel_rfl) (by kernel_rfl) (by kernel_rfl) (by kernel_rfl) (by kernel_rfl) (by kernel_rfl) ?_
    refine WPO_all tt_ok (by kernel_rfl) ?_
    refine WP_ret ?_
    exact ⟨.s (.ref 1), by kernel_rfl, fun nV w' h => ⟨nV 1, rfl, h.bel, ⟨⟨hcut ▸ h.reads (id := 1) (kd := .full) (e := 70) (by kernel_rfl), fun g hg hp => absurd hp (by simp)⟩, trivial⟩, ⟨trivial, trivial⟩⟩⟩
  | cons x0 xr =>
    rw [← hll]
    have hpos : 0 < l.length := by rw [hll]; simp
    refine APP tt_ok (.s (.ref 1)) (.s (.ref 0)) 25 70 (some 6) 4 (cut l 0 0) l encSight zSight (by kernel_rfl) (by kernel_rfl) (by kernel_rfl) (by kernel_rfl) (.inr (.inr ⟨1, rfl, (by kernel_rfl)⟩)) (.inr ⟨0, .ro, rfl, (by kernel_rfl), hpos⟩) (by rw [hll]; simp) (fun y => rfl) (fun y => List.all_eq_true.1 rfl) (fun i hi => (by have hby : (tyL tt 70).map (·.bytes) = some 32 := (by kernel_rfl); rw [hi] at hby; simp only [Option.map_some, Option.some.injEq] at hby; rw [hby, hcut]; simp only [List.length_nil, Nat.zero_add]; omega)) ?_
    refine WPO_all tt_ok (by kernel_rfl) ?_
    refine WP_ret ?_
    exact ⟨.s (.ref 2), by kernel_rfl, fun nV w' h => ⟨nV 2, rfl, h.bel, ⟨by have h5 := own_lt (id := 2) (e := 70) (sz := 4) (li := cut l 0 0 ++ l) (enc := encSight) (z := zSight) h (by kernel_rfl); rw [hcut, List.nil_append] at h5; exact h5, trivial⟩, ⟨trivial, trivial⟩⟩⟩
def ownFairwayF (b : Book) : Book :=
  b
theorem ownFairwayF_calls (g0 g1 : Value) (b : Book) (w : World) (r0 : Reads w g0 5 b.ships encShip zShip) (r1 : Reads w g1 4 b.sights encSight zSight) (hL0 : b.ships.length * 40 ≤ 140737488355328) (hL1 : b.sights.length * 32 ≤ 140737488355328) : Calls Tryd.prog 15 #[.agg #[g0, iv b.hear.lo, iv b.hear.hi, iv b.br, iv b.cr, iv b.sl, g1]] w fun e w' => ∃ v0 v1, e = .returned (.agg #[v0, iv (ownFairwayF b).hear.lo, iv (ownFairwayF b).hear.hi, iv (ownFairwayF b).br, iv (ownFairwayF b).cr, iv (ownFairwayF b).sl, v1]) ∧ Below w.heap.size w w' ∧ fineRs w.heap.size w' [⟨65, 5, _, (ownFairwayF b).ships, encShip, zShip⟩, ⟨70, 4, _, (ownFairwayF b).sights, encSight, zSight⟩] [v0, v1] ∧ apartL [⟨65, 5, _, (ownFairwayF b).ships, encShip, zShip⟩, ⟨70, 4, _, (ownFairwayF b).sights, encSight, zSight⟩] [v0, v1] := by
  refine calls_of_WP (cx := cx0 w (vn [g0, g1]) 2) (n := vn [g0, g1]) (vs := [.g [.ref 0, .int .i64 b.hear.lo, .int .i64 b.hear.hi, .int .i64 b.br, .int .i64 b.cr, .int .i64 b.sl, .ref 1]]) (hp := [(0, .sl .ro 65 5 b.ships encShip zShip), (1, .sl .ro 70 4 b.sights encSight zSight)]) (nx := 2) tt_ok Tryd.func15 rfl rfl rfl (by kernel_rfl) (HSat_args (vn_one (by simp [r0.one, r1.one])) (Nat.le_refl _) ⟨⟨⟨fun _ => rfl, by decide, r0⟩, (Nat.le_of_ble_eq_true rfl)⟩, ⟨⟨fun _ => rfl, by decide, r1⟩, (Nat.le_of_ble_eq_true rfl)⟩, trivial⟩) (vsOk (by kernel_rfl)) ?_
  have hl0 := Reads.len r0
  have hl1 := Reads.len r1
  refine WP_seq (WP_region (WPO_all tt_ok (by kernel_rfl) ?_))
  refine WP_seq (WP_drawHM 7 [] [2] (by kernel_rfl) (by kernel_rfl) ?_)
  refine H_run tt_ok [0, 1, 3, 4] (f' := 3) (by kernel_rfl) (by kernel_rfl) (by kernel_rfl) ?_
  refine H_step 2 (by kernel_rfl) (by kernel_rfl) (fun hfz cx' hx1 hx2 => ?_)
  refine CALLF1 56 [.s (.ref 0)] (fun sv0_ => .s (.v sv0_)) ⟨65, 5, _, b.ships, encShip, zShip⟩ (by kernel_rfl) (goes_of (by kernel_rfl)) (fun _ _ => (by kernel_rfl)) (fun _ _ => (by kernel_rfl)) (fun _ _ _ _ => rfl) ⟨⟨(Nat.le_of_ble_eq_true rfl), fun _ => rfl⟩, trivial⟩ (fun nV w h => ownShips_calls (nV 0) b.ships w (h.reads (id := 0) (kd := .ro) (e := 65) (by kernel_rfl)) (by assumption)) (fun sA1 sc1 => ?_)
  refine WPO_end (by kernel_rfl) ⟨rfl, (hfz.fnds [3, 2, 0, 1] (by kernel_rfl) ⟨by kernel_rfl, by kernel_rfl, by kernel_rfl, by kernel_rfl, trivial⟩ (by kernel_rfl)), ?_⟩
  refine H_run tt_ok [6] (f' := 1) (by kernel_rfl) (by kernel_rfl) (by kernel_rfl) ?_
  refine H_step 5 (by kernel_rfl) (by kernel_rfl) (fun hfz cx' hx1 hx2 => ?_)
  refine CALLF1 57 [.s (.ref 1)] (fun sv0_ => .s (.v sv0_)) ⟨70, 4, _, b.sights, encSight, zSight⟩ (by kernel_rfl) (goes_of (by kernel_rfl)) (fun _ _ => (by kernel_rfl)) (fun _ _ => (by kernel_rfl)) (fun _ _ _ _ => rfl) ⟨⟨(Nat.le_of_ble_eq_true rfl), fun _ => rfl⟩, trivial⟩ (fun nV w h => ownSights_calls (nV 1) b.sights w (h.reads (id := 1) (kd := .ro) (e := 70) (by kernel_rfl)) (by assumption)) (fun sA2 sc2 => ?_)
  refine WPO_end (by kernel_rfl) ⟨rfl, (hfz.fnds [3, 2, 0, 1] (by kernel_rfl) ⟨by kernel_rfl, by kernel_rfl, by kernel_rfl, by kernel_rfl, trivial⟩ (by kernel_rfl)), ?_⟩
  refine H_done (by kernel_rfl) ?_
  refine ⟨(by kernel_rfl), ?_⟩
  refine H_step 7 (by kernel_rfl) (by kernel_rfl) (fun hfz cx' hx1 hx2 => ?_)
  refine WPO_all tt_ok (by kernel_rfl) ?_
  refine ⟨rfl, (hfz.fnds [5, 4, 3, 0, 1] (by kernel_rfl) ⟨by kernel_rfl, by kernel_rfl, by kernel_rfl, by kernel_rfl, by kernel_rfl, trivial⟩ (by kernel_rfl)), ?_⟩
  refine H_step 8 (by kernel_rfl) (by kernel_rfl) (fun hfz cx' hx1 hx2 => ?_)
  refine WPO_all tt_ok (by kernel_rfl) ?_
  refine ⟨rfl, (hfz.fnds [5, 4, 3, 0, 1] (by kernel_rfl) ⟨by kernel_rfl, by kernel_rfl, by kernel_rfl, by kernel_rfl, by kernel_rfl, trivial⟩ (by kernel_rfl)), ?_⟩
  refine H_step 9 (by kernel_rfl) (by kernel_rfl) (fun hfz cx' hx1 hx2 => ?_)
  refine WPO_all tt_ok (by kernel_rfl) ?_
  refine ⟨rfl, (hfz.fnds [5, 4, 3, 0, 1] (by kernel_rfl) ⟨by kernel_rfl, by kernel_rfl, by kernel_rfl, by kernel_rfl, by kernel_rfl, trivial⟩ (by kernel_rfl)), ?_⟩
  refine H_done (by kernel_rfl) ?_
  refine WP_seq (WP_region (WPO_all tt_ok (by kernel_rfl) ?_))
  refine WP_ret ?_
  exact ⟨.g [.v (.slice sA1 b.ships.length sc1), .int .i64 b.hear.lo, .int .i64 b.hear.hi, .int .i64 b.br, .int .i64 b.cr, .int .i64 b.sl, .v (.slice sA2 b.sights.length sc2)], by kernel_rfl, fun nV w' h => ⟨(.slice sA1 b.ships.length sc1), (.slice sA2 b.sights.length sc2), by rw [show ownFairwayF b = b from rfl]; rfl, h.bel, by rw [show ownFairwayF b = b from rfl]; exact ⟨slF_lt (id := 4) (v := (.slice sA1 b.ships.length sc1)) (sz := 5) (li := b.ships) (enc := encShip) (z := zShip) h (by kernel_rfl), slF_lt (id := 5) (v := (.slice sA2 b.sights.length sc2)) (sz := 4) (li := b.sights) (enc := encSight) (z := zSight) h (by kernel_rfl), trivial⟩, by rw [show ownFairwayF b = b from rfl]; exact ⟨⟨fun g h1 h2 h3 h4 => own_apart h (i := 4) (j := 5) (x := slF (.slice sA1 b.ships.length sc1) 5 b.ships encShip zShip) (y := slF (.slice sA2 b.sights.length sc2) 4 b.sights encSight zSight) (by kernel_rfl) (by kernel_rfl) (by decide) rfl g ⟨h1, h2⟩ ⟨h3, h4⟩, trivial⟩, trivial, trivial⟩⟩⟩
end Go.Proofs.YtamimgmoomcipaaDoor.Lw
namespace Go.Proofs.YtamimgmoomcipaaDoor.Lw
open Go Go.RowKit Go.Proofs.YtamimgmoomcipaaDoor.Eng Go.Proofs.YtamimgmoomcipaaDoor.Fw Go.Proofs.YtamimgmoomcipaaDoor.Rf
set_option linter.unusedVariables false
set_option linter.unusedSimpArgs false
def keptFairwayF (b : Book) (c : Book) : Bool :=
  (((((keptShipsF b.ships c.ships) && (b.hear.lo == c.hear.lo && b.hear.hi == c.hear.hi)) && (b.br == c.br)) && (b.cr == c.cr)) && (b.sl == c.sl)) && (keptSightsF b.sights c.sights)
theorem keptFairwayF_calls (g0 g1 g2 g3 : Value) (b : Book) (c : Book) (w : World) (r0 : Reads w g0 5 b.ships encShip zShip) (r1 : Reads w g1 4 b.sights encSight zSight) (r2 : Reads w g2 5 c.ships encShip zShip) (r3 : Reads w g3 4 c.sights encSight zSight)  : Calls Tryd.prog 17 #[.agg #[g0, iv b.hear.lo, iv b.hear.hi, iv b.br, iv b.cr, iv b.sl, g1], .agg #[g2, iv c.hear.lo, iv c.hear.hi, iv c.br, iv c.cr, iv c.sl, g3]] w fun e w' => e = .returned (.bool (keptFairwayF b c)) ∧ Below w.heap.size w w' := by
  refine calls_of_WP (cx := cx0 w (vn [g0, g1, g2, g3]) 4) (n := vn [g0, g1, g2, g3]) (vs := [.g [.ref 0, .int .i64 b.hear.lo, .int .i64 b.hear.hi, .int .i64 b.br, .int .i64 b.cr, .int .i64 b.sl, .ref 1], .g [.ref 2, .int .i64 c.hear.lo, .int .i64 c.hear.hi, .int .i64 c.br, .int .i64 c.cr, .int .i64 c.sl, .ref 3]]) (hp := [(0, .sl .ro 65 5 b.ships encShip zShip), (1, .sl .ro 70 4 b.sights encSight zSight), (2, .sl .ro 65 5 c.ships encShip zShip), (3, .sl .ro 70 4 c.sights encSight zSight)]) (nx := 4) tt_ok Tryd.func17 rfl rfl rfl (by kernel_rfl) (HSat_args (vn_one (by simp [r0.one, r1.one, r2.one, r3.one])) (Nat.le_refl _) ⟨⟨⟨fun _ => rfl, by decide, r0⟩, (Nat.le_of_ble_eq_true rfl)⟩, ⟨⟨fun _ => rfl, by decide, r1⟩, (Nat.le_of_ble_eq_true rfl)⟩, ⟨⟨fun _ => rfl, by decide, r2⟩, (Nat.le_of_ble_eq_true rfl)⟩, ⟨⟨fun _ => rfl, by decide, r3⟩, (Nat.le_of_ble_eq_true rfl)⟩, trivial⟩) (vsOk (by kernel_rfl)) ?_
  have hl0 := Reads.len r0
  have hl1 := Reads.len r1
  have hl2 := Reads.len r2
  have hl3 := Reads.len r3
  refine WP_seq (WP_region (WPO_all tt_ok (by kernel_rfl) ?_))
  refine WP_seq (WP_region (WPO_run tt_ok 4 (by kernel_rfl) ?_))
  refine CALL 63 [.s (.ref 0), .s (.ref 2)] (.s (.bool (keptShipsF b.ships c.ships))) [] (by kernel_rfl) (goes_of (by kernel_rfl)) (by kernel_rfl) (by kernel_rfl) (fun _ nV w h => keptShipsF_calls (nV 0) (nV 2) b.ships c.ships w (h.reads (id := 0) (kd := .ro) (e := 65) (by kernel_rfl)) (h.reads (id := 2) (kd := .ro) (e := 65) (by kernel_rfl)) ) ?_
  refine WPO_run tt_ok 5 (by kernel_rfl) ?_
  refine BIN .eql 24 (.tmp 12) (.tmp 14) (.g [.int .i64 b.hear.lo, .int .i64 b.hear.hi]) (.g [.int .i64 c.hear.lo, .int .i64 c.hear.hi]) (.s (.bool (b.hear.lo == c.hear.lo && b.hear.hi == c.hear.hi))) [((keptShipsF b.ships c.ships), true)] (by kernel_rfl) (by kernel_rfl) (by kernel_rfl) (fun _ => BinOk_pair (by kernel_rfl) _ _ _ _) ?_
  refine WPO_run tt_ok 27 (by kernel_rfl) ?_
  refine CALL 64 [.s (.ref 1), .s (.ref 3)] (.s (.bool (keptSightsF b.sights c.sights))) [(((((keptShipsF b.ships c.ships) && (b.hear.lo == c.hear.lo && b.hear.hi == c.hear.hi)) && (b.br == c.br)) && (b.cr == c.cr)) && (b.sl == c.sl), true)] (by kernel_rfl) (goes_of (by kernel_rfl)) (by kernel_rfl) (by kernel_rfl) (fun _ nV w h => keptSightsF_calls (nV 1) (nV 3) b.sights c.sights w (h.reads (id := 1) (kd := .ro) (e := 70) (by kernel_rfl)) (h.reads (id := 3) (kd := .ro) (e := 70) (by kernel_rfl)) ) ?_
  refine WPO_all tt_ok (by kernel_rfl) ?_
  refine WP_ret ?_
  exact ⟨.s (.bool ((((((keptShipsF b.ships c.ships) && (b.hear.lo == c.hear.lo && b.hear.hi == c.hear.hi)) && (b.br == c.br)) && (b.cr == c.cr)) && (b.sl == c.sl)) && (keptSightsF b.sights c.sights))), by kernel_rfl, fun nV w' h => ⟨by rw [show keptFairwayF b c = ((((((keptShipsF b.ships c.ships) && (b.hear.lo == c.hear.lo && b.hear.hi == c.hear.hi)) && (b.br == c.br)) && (b.cr == c.cr)) && (b.sl == c.sl)) && (keptSightsF b.sights c.sights)) from rfl]; rfl, h.bel⟩⟩
def shipL (minute : Int) (away : Span) (speed : Span) : Ship :=
  (⟨minute, away, speed⟩ : Ship)
theorem shipL_calls  (minute : Int) (away : Span) (speed : Span) (w : World)   : Calls Tryd.prog 51 #[iv minute, .agg #[iv away.lo, iv away.hi], .agg #[iv speed.lo, iv speed.hi]] w fun e w' => e = .returned (.agg #[iv (shipL minute away speed).m, iv (shipL minute away speed).aw.lo, iv (shipL minute away speed).aw.hi, iv (shipL minute away speed).sp.lo, iv (shipL minute away speed).sp.hi]) ∧ Below w.heap.size w w' := by
  refine calls_of_WP (cx := cx0 w Eng.n0 0) (n := Eng.n0) (vs := [.s (.int .i64 minute), .g [.int .i64 away.lo, .int .i64 away.hi], .g [.int .i64 speed.lo, .int .i64 speed.hi]]) (hp := []) (nx := 0) tt_ok Tryd.func51 rfl rfl rfl (by kernel_rfl) (HSat0 _ _ _ _ _ _ (fun _ => rfl) (Nat.le_refl _)) (vsOk (by kernel_rfl)) ?_
  refine WP_seq (WP_region (WPO_all tt_ok (by kernel_rfl) ?_))
  refine WP_seq (WP_region (WPO_all tt_ok (by kernel_rfl) ?_))
  refine WP_ret ?_
  exact ⟨.g [.int .i64 minute, .int .i64 away.lo, .int .i64 away.hi, .int .i64 speed.lo, .int .i64 speed.hi], by kernel_rfl, fun nV w' h => ⟨by rw [show shipL minute away speed = (⟨minute, away, speed⟩ : Ship) from rfl]; rfl, h.bel⟩⟩
def bookL (l : List Sight) : Book :=
  (⟨[(shipL 0 (rangeF 20 22) (pointF 2)), (shipL 4 (rangeF 36 42) (rangeF 3 4))], (rangeF 30 40), 1, 5, 2, l⟩ : Book)
theorem bookL_calls (g0 : Value) (l : List Sight) (w : World) (r0 : Reads w g0 4 l encSight zSight)  : Calls Tryd.prog 53 #[g0] w fun e w' => ∃ v0, e = .returned (.agg #[v0, iv (bookL l).hear.lo, iv (bookL l).hear.hi, iv (bookL l).br, iv (bookL l).cr, iv (bookL l).sl, g0]) ∧ Below w.heap.size w w' ∧ w'.ownsRow w.heap.size 65 5 v0 (bookL l).ships.length (flat (bookL l).ships encShip) := by
  refine calls_of_WP (cx := cx0 w (vn [g0]) 1) (n := vn [g0]) (vs := [.s (.ref 0)]) (hp := [(0, .sl .ro 70 4 l encSight zSight)]) (nx := 1) tt_ok Tryd.func53 rfl rfl rfl (by kernel_rfl) (HSat_args (vn_one (by simp [r0.one])) (Nat.le_refl _) ⟨⟨⟨fun _ => rfl, by decide, r0⟩, (Nat.le_of_ble_eq_true rfl)⟩, trivial⟩) (vsOk (by kernel_rfl)) ?_
  have hl0 := Reads.len r0
  refine WP_seq (WP_region (WPO_all tt_ok (by kernel_rfl) ?_))
  refine WP_seq (WP_region (CALL 41 [.s (.int .i64 20), .s (.int .i64 22)] (.g [.int .i64 (rangeF 20 22).lo, .int .i64 (rangeF 20 22).hi]) [] (by kernel_rfl) (goes_of (by kernel_rfl)) (by kernel_rfl) (by kernel_rfl) (fun _ nV w h => rangeF_calls  20 22 w  ) ?_))
  refine CALL 38 [.s (.int .i64 2)] (.g [.int .i64 (pointF 2).lo, .int .i64 (pointF 2).hi]) [] (by kernel_rfl) (goes_of (by kernel_rfl)) (by kernel_rfl) (by kernel_rfl) (fun _ nV w h => pointF_calls  2 w  ) ?_
  refine CALL 51 [.s (.int .i64 0), .g [.int .i64 (rangeF 20 22).lo, .int .i64 (rangeF 20 22).hi], .g [.int .i64 (pointF 2).lo, .int .i64 (pointF 2).hi]] (.g [.int .i64 (shipL 0 (rangeF 20 22) (pointF 2)).m, .int .i64 (shipL 0 (rangeF 20 22) (pointF 2)).aw.lo, .int .i64 (shipL 0 (rangeF 20 22) (pointF 2)).aw.hi, .int .i64 (shipL 0 (rangeF 20 22) (pointF 2)).sp.lo, .int .i64 (shipL 0 (rangeF 20 22) (pointF 2)).sp.hi]) [] (by kernel_rfl) (goes_of (by kernel_rfl)) (by kernel_rfl) (by kernel_rfl) (fun _ nV w h => shipL_calls  0 (rangeF 20 22) (pointF 2) w  ) ?_
  refine CALL 41 [.s (.int .i64 36), .s (.int .i64 42)] (.g [.int .i64 (rangeF 36 42).lo, .int .i64 (rangeF 36 42).hi]) [] (by kernel_rfl) (goes_of (by kernel_rfl)) (by kernel_rfl) (by kernel_rfl) (fun _ nV w h => rangeF_calls  36 42 w  ) ?_
  refine CALL 41 [.s (.int .i64 3), .s (.int .i64 4)] (.g [.int .i64 (rangeF 3 4).lo, .int .i64 (rangeF 3 4).hi]) [] (by kernel_rfl) (goes_of (by kernel_rfl)) (by kernel_rfl) (by kernel_rfl) (fun _ nV w h => rangeF_calls  3 4 w  ) ?_
  refine CALL 51 [.s (.int .i64 4), .g [.int .i64 (rangeF 36 42).lo, .int .i64 (rangeF 36 42).hi], .g [.int .i64 (rangeF 3 4).lo, .int .i64 (rangeF 3 4).hi]] (.g [.int .i64 (shipL 4 (rangeF 36 42) (rangeF 3 4)).m, .int .i64 (shipL 4 (rangeF 36 42) (rangeF 3 4)).aw.lo, .int .i64 (shipL 4 (rangeF 36 42) (rangeF 3 4)).aw.hi, .int .i64 (shipL 4 (rangeF 36 42) (rangeF 3 4)).sp.lo, .int .i64 (shipL 4 (rangeF 36 42) (rangeF 3 4)).sp.hi]) [] (by kernel_rfl) (goes_of (by kernel_rfl)) (by kernel_rfl) (by kernel_rfl) (fun _ nV w h => shipL_calls  4 (rangeF 36 42) (rangeF 3 4) w  ) ?_
  refine LIT tt_ok (by kernel_rfl) ?_
  refine LITSL 2 65 2 5 [.int .i64 (shipL 0 (rangeF 20 22) (pointF 2)).m, .int .i64 (shipL 0 (rangeF 20 22) (pointF 2)).aw.lo, .int .i64 (shipL 0 (rangeF 20 22) (pointF 2)).aw.hi, .int .i64 (shipL 0 (rangeF 20 22) (pointF 2)).sp.lo, .int .i64 (shipL 0 (rangeF 20 22) (pointF 2)).sp.hi, .int .i64 (shipL 4 (rangeF 36 42) (rangeF 3 4)).m, .int .i64 (shipL 4 (rangeF 36 42) (rangeF 3 4)).aw.lo, .int .i64 (shipL 4 (rangeF 36 42) (rangeF 3 4)).aw.hi, .int .i64 (shipL 4 (rangeF 36 42) (rangeF 3 4)).sp.lo, .int .i64 (shipL 4 (rangeF 36 42) (rangeF 3 4)).sp.hi] [(shipL 0 (rangeF 20 22) (pointF 2)), (shipL 4 (rangeF 36 42) (rangeF 3 4))] encShip zShip (by kernel_rfl) rfl (fun _ => rfl) (fun n => rfl) ?_
  refine CALL 41 [.s (.int .i64 30), .s (.int .i64 40)] (.g [.int .i64 (rangeF 30 40).lo, .int .i64 (rangeF 30 40).hi]) [] (by kernel_rfl) (goes_of (by kernel_rfl)) (by kernel_rfl) (by kernel_rfl) (fun _ nV w h => rangeF_calls  30 40 w  ) ?_
  refine WPO_all tt_ok (by kernel_rfl) ?_
  refine WP_ret ?_
  exact ⟨.g [.ref 2, .int .i64 (rangeF 30 40).lo, .int .i64 (rangeF 30 40).hi, .int .i64 1, .int .i64 5, .int .i64 2, .ref 0], by kernel_rfl, fun nV w' h => ⟨nV 2, by have e0 : nV 0 = g0 := h.ini 0 (by show 0 < 1; decide); rw [show bookL l = (⟨[(shipL 0 (rangeF 20 22) (pointF 2)), (shipL 4 (rangeF 36 42) (rangeF 3 4))], (rangeF 30 40), 1, 5, 2, l⟩ : Book) from rfl, ← e0]; rfl, h.bel, by rw [show bookL l = (⟨[(shipL 0 (rangeF 20 22) (pointF 2)), (shipL 4 (rangeF 36 42) (rangeF 3 4))], (rangeF 30 40), 1, 5, 2, l⟩ : Book) from rfl]; exact own_of (z := zShip) h (by kernel_rfl)⟩⟩
def ownL  : Book :=
  (⟨(bookL ([])).ships, (bookL ([])).hear, (bookL ([])).br, (bookL ([])).cr, (bookL ([])).sl, []⟩ : Book)
theorem ownL_calls   (w : World)   : Calls Tryd.prog 52 #[] w fun e w' => ∃ v0 v1, e = .returned (.agg #[v0, iv ownL.hear.lo, iv ownL.hear.hi, iv ownL.br, iv ownL.cr, iv ownL.sl, v1]) ∧ Below w.heap.size w w' ∧ fineRs w.heap.size w' [⟨65, 5, _, ownL.ships, encShip, zShip⟩, ⟨70, 4, _, ownL.sights, encSight, zSight⟩] [v0, v1] ∧ apartL [⟨65, 5, _, ownL.ships, encShip, zShip⟩, ⟨70, 4, _, ownL.sights, encSight, zSight⟩] [v0, v1] := by
  refine calls_of_WP (cx := cx0 w Eng.n0 0) (n := Eng.n0) (vs := []) (hp := []) (nx := 0) tt_ok Tryd.func52 rfl rfl rfl (by kernel_rfl) (HSat0 _ _ _ _ _ _ (fun _ => rfl) (Nat.le_refl _)) (vsOk (by kernel_rfl)) ?_
  refine WP_seq (WP_region (WPO_all tt_ok (by kernel_rfl) ?_))
  refine WP_seq (WP_region (CALLO 53 [.s (.v (.slice none 0 0))] (.g [.ref 1, .int .i64 (bookL ([])).hear.lo, .int .i64 (bookL ([])).hear.hi, .int .i64 (bookL ([])).br, .int .i64 (bookL ([])).cr, .int .i64 (bookL ([])).sl, .v (.slice none 0 0)]) 65 5 (bookL ([])).ships encShip zShip 1 (by kernel_rfl) (by kernel_rfl) (goes_of (by kernel_rfl)) (by kernel_rfl) (by kernel_rfl) (fun _ => rfl) ((fun nV w h => bookL_calls (.slice none 0 0) ([]) w reads_nil )) ?_))
  refine WPO_all tt_ok (by kernel_rfl) ?_
  refine WP_ret ?_
  exact ⟨.g [.ref 1, .int .i64 (bookL ([])).hear.lo, .int .i64 (bookL ([])).hear.hi, .int .i64 (bookL ([])).br, .int .i64 (bookL ([])).cr, .int .i64 (bookL ([])).sl, .v (.slice none 0 0)], by kernel_rfl, fun nV w' h => ⟨nV 1, .slice none 0 0, by rw [show ownL = (⟨(bookL ([])).ships, (bookL ([])).hear, (bookL ([])).br, (bookL ([])).cr, (bookL ([])).sl, []⟩ : Book) from rfl]; rfl, h.bel, by rw [show ownL = (⟨(bookL ([])).ships, (bookL ([])).hear, (bookL ([])).br, (bookL ([])).cr, (bookL ([])).sl, []⟩ : Book) from rfl]; exact ⟨own_lt (id := 1) (e := 65) (sz := 5) (li := (bookL ([])).ships) (enc := encShip) (z := zShip) h (by kernel_rfl), ⟨reads_nil, fun g hg => by cases hg⟩, trivial⟩, by rw [show ownL = (⟨(bookL ([])).ships, (bookL ([])).hear, (bookL ([])).br, (bookL ([])).cr, (bookL ([])).sl, []⟩ : Book) from rfl]; exact ⟨⟨fun g _ _ h1 _ => (by cases h1), trivial⟩, trivial, trivial⟩⟩⟩
def sightedL  : Book :=
  (⟨(bookL ([(⟨1, 9, (pointF 20)⟩ : Sight)])).ships, (bookL ([(⟨1, 9, (pointF 20)⟩ : Sight)])).hear, (bookL ([(⟨1, 9, (pointF 20)⟩ : Sight)])).br, (bookL ([(⟨1, 9, (pointF 20)⟩ : Sight)])).cr, (bookL ([(⟨1, 9, (pointF 20)⟩ : Sight)])).sl, [(⟨1, 9, (pointF 20)⟩ : Sight)]⟩ : Book)
theorem sightedL_calls   (w : World)   : Calls Tryd.prog 55 #[] w fun e w' => ∃ v0 v1, e = .returned (.agg #[v0, iv sightedL.hear.lo, iv sightedL.hear.hi, iv sightedL.br, iv sightedL.cr, iv sightedL.sl, v1]) ∧ Below w.heap.size w w' ∧ fineRs w.heap.size w' [⟨65, 5, _, sightedL.ships, encShip, zShip⟩, ⟨70, 4, _, sightedL.sights, encSight, zSight⟩] [v0, v1] ∧ apartL [⟨65, 5, _, sightedL.ships, encShip, zShip⟩, ⟨70, 4, _, sightedL.sights, encSight, zSight⟩] [v0, v1] := by
  refine calls_of_WP (cx := cx0 w Eng.n0 0) (n := Eng.n0) (vs := []) (hp := []) (nx := 0) tt_ok Tryd.func55 rfl rfl rfl (by kernel_rfl) (HSat0 _ _ _ _ _ _ (fun _ => rfl) (Nat.le_refl _)) (vsOk (by kernel_rfl)) ?_
  refine WP_seq (WP_region (WPO_all tt_ok (by kernel_rfl) ?_))
  refine WP_seq (WP_region (CALL 38 [.s (.int .i64 20)] (.g [.int .i64 (pointF 20).lo, .int .i64 (pointF 20).hi]) [] (by kernel_rfl) (goes_of (by kernel_rfl)) (by kernel_rfl) (by kernel_rfl) (fun _ nV w h => pointF_calls  20 w  ) ?_))
  refine WPO_run tt_ok 1 (by kernel_rfl) ?_
  refine LIT tt_ok (by kernel_rfl) ?_
  refine LITSL 1 70 1 4 [.int .i64 1, .int .i64 9, .int .i64 (pointF 20).lo, .int .i64 (pointF 20).hi] [(⟨1, 9, (pointF 20)⟩ : Sight)] encSight zSight (by kernel_rfl) rfl (fun _ => rfl) (fun n => rfl) ?_
  refine CALLO 53 [.s (.ref 1)] (.g [.ref 2, .int .i64 (bookL ([(⟨1, 9, (pointF 20)⟩ : Sight)])).hear.lo, .int .i64 (bookL ([(⟨1, 9, (pointF 20)⟩ : Sight)])).hear.hi, .int .i64 (bookL ([(⟨1, 9, (pointF 20)⟩ : Sight)])).br, .int .i64 (bookL ([(⟨1, 9, (pointF 20)⟩ : Sight)])).cr, .int .i64 (bookL ([(⟨1, 9, (pointF 20)⟩ : Sight)])).sl, .ref 1]) 65 5 (bookL ([(⟨1, 9, (pointF 20)⟩ : Sight)])).ships encShip zShip 2 (by kernel_rfl) (by kernel_rfl) (goes_of (by kernel_rfl)) (by kernel_rfl) (by kernel_rfl) (fun _ => rfl) ((fun nV w h => bookL_calls (nV 1) ([(⟨1, 9, (pointF 20)⟩ : Sight)]) w (h.reads (id := 1) (kd := .own) (e := 70) (by kernel_rfl)) )) ?_
  refine WPO_all tt_ok (by kernel_rfl) ?_
  refine WP_ret ?_
  exact ⟨.g [.ref 2, .int .i64 (bookL ([(⟨1, 9, (pointF 20)⟩ : Sight)])).hear.lo, .int .i64 (bookL ([(⟨1, 9, (pointF 20)⟩ : Sight)])).hear.hi, .int .i64 (bookL ([(⟨1, 9, (pointF 20)⟩ : Sight)])).br, .int .i64 (bookL ([(⟨1, 9, (pointF 20)⟩ : Sight)])).cr, .int .i64 (bookL ([(⟨1, 9, (pointF 20)⟩ : Sight)])).sl, .ref 1], by kernel_rfl, fun nV w' h => ⟨nV 2, nV 1, by rw [show sightedL = (⟨(bookL ([(⟨1, 9, (pointF 20)⟩ : Sight)])).ships, (bookL ([(⟨1, 9, (pointF 20)⟩ : Sight)])).hear, (bookL ([(⟨1, 9, (pointF 20)⟩ : Sight)])).br, (bookL ([(⟨1, 9, (pointF 20)⟩ : Sight)])).cr, (bookL ([(⟨1, 9, (pointF 20)⟩ : Sight)])).sl, [(⟨1, 9, (pointF 20)⟩ : Sight)]⟩ : Book) from rfl]; rfl, h.bel, by rw [show sightedL = (⟨(bookL ([(⟨1, 9, (pointF 20)⟩ : Sight)])).ships, (bookL ([(⟨1, 9, (pointF 20)⟩ : Sight)])).hear, (bookL ([(⟨1, 9, (pointF 20)⟩ : Sight)])).br, (bookL ([(⟨1, 9, (pointF 20)⟩ : Sight)])).cr, (bookL ([(⟨1, 9, (pointF 20)⟩ : Sight)])).sl, [(⟨1, 9, (pointF 20)⟩ : Sight)]⟩ : Book) from rfl]; exact ⟨own_lt (id := 2) (e := 65) (sz := 5) (li := (bookL ([(⟨1, 9, (pointF 20)⟩ : Sight)])).ships) (enc := encShip) (z := zShip) h (by kernel_rfl), own_lt (id := 1) (e := 70) (sz := 4) (li := ([(⟨1, 9, (pointF 20)⟩ : Sight)])) (enc := encSight) (z := zSight) h (by kernel_rfl), trivial⟩, by rw [show sightedL = (⟨(bookL ([(⟨1, 9, (pointF 20)⟩ : Sight)])).ships, (bookL ([(⟨1, 9, (pointF 20)⟩ : Sight)])).hear, (bookL ([(⟨1, 9, (pointF 20)⟩ : Sight)])).br, (bookL ([(⟨1, 9, (pointF 20)⟩ : Sight)])).cr, (bookL ([(⟨1, 9, (pointF 20)⟩ : Sight)])).sl, [(⟨1, 9, (pointF 20)⟩ : Sight)]⟩ : Book) from rfl]; exact ⟨⟨fun g h1 h2 h3 h4 => own_apart h (i := 2) (j := 1) (x := .sl .own 65 5 (bookL ([(⟨1, 9, (pointF 20)⟩ : Sight)])).ships encShip zShip) (y := .sl .own 70 4 ([(⟨1, 9, (pointF 20)⟩ : Sight)]) encSight zSight) (by kernel_rfl) (by kernel_rfl) (by decide) rfl g h1 h3, trivial⟩, trivial, trivial⟩⟩⟩
def tornL  : Book :=
  (⟨(bookL ([(⟨1, 9, (pointF 20)⟩ : Sight), (⟨1, 9, (rangeF 25 26)⟩ : Sight)])).ships, (bookL ([(⟨1, 9, (pointF 20)⟩ : Sight), (⟨1, 9, (rangeF 25 26)⟩ : Sight)])).hear, (bookL ([(⟨1, 9, (pointF 20)⟩ : Sight), (⟨1, 9, (rangeF 25 26)⟩ : Sight)])).br, (bookL ([(⟨1, 9, (pointF 20)⟩ : Sight), (⟨1, 9, (rangeF 25 26)⟩ : Sight)])).cr, (bookL ([(⟨1, 9, (pointF 20)⟩ : Sight), (⟨1, 9, (rangeF 25 26)⟩ : Sight)])).sl, [(⟨1, 9, (pointF 20)⟩ : Sight), (⟨1, 9, (rangeF 25 26)⟩ : Sight)]⟩ : Book)
theorem tornL_calls   (w : World)   : Calls Tryd.prog 54 #[] w fun e w' => ∃ v0 v1, e = .returned (.agg #[v0, iv tornL.hear.lo, iv tornL.hear.hi, iv tornL.br, iv tornL.cr, iv tornL.sl, v1]) ∧ Below w.heap.size w w' ∧ fineRs w.heap.size w' [⟨65, 5, _, tornL.ships, encShip, zShip⟩, ⟨70, 4, _, tornL.sights, encSight, zSight⟩] [v0, v1] ∧ apartL [⟨65, 5, _, tornL.ships, encShip, zShip⟩, ⟨70, 4, _, tornL.sights, encSight, zSight⟩] [v0, v1] := by
  refine calls_of_WP (cx := cx0 w Eng.n0 0) (n := Eng.n0) (vs := []) (hp := []) (nx := 0) tt_ok Tryd.func54 rfl rfl rfl (by kernel_rfl) (HSat0 _ _ _ _ _ _ (fun _ => rfl) (Nat.le_refl _)) (vsOk (by kernel_rfl)) ?_
  refine WP_seq (WP_region (WPO_all tt_ok (by kernel_rfl) ?_))
  refine WP_seq (WP_region (CALL 38 [.s (.int .i64 20)] (.g [.int .i64 (pointF 20).lo, .int .i64 (pointF 20).hi]) [] (by kernel_rfl) (goes_of (by kernel_rfl)) (by kernel_rfl) (by kernel_rfl) (fun _ nV w h => pointF_calls  20 w  ) ?_))
  refine WPO_run tt_ok 1 (by kernel_rfl) ?_
  refine CALL 41 [.s (.int .i64 25), .s (.int .i64 26)] (.g [.int .i64 (rangeF 25 26).lo, .int .i64 (rangeF 25 26).hi]) [] (by kernel_rfl) (goes_of (by kernel_rfl)) (by kernel_rfl) (by kernel_rfl) (fun _ nV w h => rangeF_calls  25 26 w  ) ?_
  refine WPO_run tt_ok 1 (by kernel_rfl) ?_
  refine LIT tt_ok (by kernel_rfl) ?_
  refine LITSL 1 70 2 4 [.int .i64 1, .int .i64 9, .int .i64 (pointF 20).lo, .int .i64 (pointF 20).hi, .int .i64 1, .int .i64 9, .int .i64 (rangeF 25 26).lo, .int .i64 (rangeF 25 26).hi] [(⟨1, 9, (pointF 20)⟩ : Sight), (⟨1, 9, (rangeF 25 26)⟩ : Sight)] encSight zSight (by kernel_rfl) rfl (fun _ => rfl) (fun n => rfl) ?_
  refine CALLO 53 [.s (.ref 1)] (.g [.ref 2, .int .i64 (bookL ([(⟨1, 9, (pointF 20)⟩ : Sight), (⟨1, 9, (rangeF 25 26)⟩ : Sight)])).hear.lo, .int .i64 (bookL ([(⟨1, 9, (pointF 20)⟩ : Sight), (⟨1, 9, (rangeF 25 26)⟩ : Sight)])).hear.hi, .int .i64 (bookL ([(⟨1, 9, (pointF 20)⟩ : Sight), (⟨1, 9, (rangeF 25 26)⟩ : Sight)])).br, .int .i64 (bookL ([(⟨1, 9, (pointF 20)⟩ : Sight), (⟨1, 9, (rangeF 25 26)⟩ : Sight)])).cr, .int .i64 (bookL ([(⟨1, 9, (pointF 20)⟩ : Sight), (⟨1, 9, (rangeF 25 26)⟩ : Sight)])).sl, .ref 1]) 65 5 (bookL ([(⟨1, 9, (pointF 20)⟩ : Sight), (⟨1, 9, (rangeF 25 26)⟩ : Sight)])).ships encShip zShip 2 (by kernel_rfl) (by kernel_rfl) (goes_of (by kernel_rfl)) (by kernel_rfl) (by kernel_rfl) (fun _ => rfl) ((fun nV w h => bookL_calls (nV 1) ([(⟨1, 9, (pointF 20)⟩ : Sight), (⟨1, 9, (rangeF 25 26)⟩ : Sight)]) w (h.reads (id := 1) (kd := .own) (e := 70) (by kernel_rfl)) )) ?_
  refine WPO_all tt_ok (by kernel_rfl) ?_
  refine WP_ret ?_
  exact ⟨.g [.ref 2, .int .i64 (bookL ([(⟨1, 9, (pointF 20)⟩ : Sight), (⟨1, 9, (rangeF 25 26)⟩ : Sight)])).hear.lo, .int .i64 (bookL ([(⟨1, 9, (pointF 20)⟩ : Sight), (⟨1, 9, (rangeF 25 26)⟩ : Sight)])).hear.hi, .int .i64 (bookL ([(⟨1, 9, (pointF 20)⟩ : Sight), (⟨1, 9, (rangeF 25 26)⟩ : Sight)])).br, .int .i64 (bookL ([(⟨1, 9, (pointF 20)⟩ : Sight), (⟨1, 9, (rangeF 25 26)⟩ : Sight)])).cr, .int .i64 (bookL ([(⟨1, 9, (pointF 20)⟩ : Sight), (⟨1, 9, (rangeF 25 26)⟩ : Sight)])).sl, .ref 1], by kernel_rfl, fun nV w' h => ⟨nV 2, nV 1, by rw [show tornL = (⟨(bookL ([(⟨1, 9, (pointF 20)⟩ : Sight), (⟨1, 9, (rangeF 25 26)⟩ : Sight)])).ships, (bookL ([(⟨1, 9, (pointF 20)⟩ : Sight), (⟨1, 9, (rangeF 25 26)⟩ : Sight)])).hear, (bookL ([(⟨1, 9, (pointF 20)⟩ : Sight), (⟨1, 9, (rangeF 25 26)⟩ : Sight)])).br, (bookL ([(⟨1, 9, (pointF 20)⟩ : Sight), (⟨1, 9, (rangeF 25 26)⟩ : Sight)])).cr, (bookL ([(⟨1, 9, (pointF 20)⟩ : Sight), (⟨1, 9, (rangeF 25 26)⟩ : Sight)])).sl, [(⟨1, 9, (pointF 20)⟩ : Sight), (⟨1, 9, (rangeF 25 26)⟩ : Sight)]⟩ : Book) from rfl]; rfl, h.bel, by rw [show tornL = (⟨(bookL ([(⟨1, 9, (pointF 20)⟩ : Sight), (⟨1, 9, (rangeF 25 26)⟩ : Sight)])).ships, (bookL ([(⟨1, 9, (pointF 20)⟩ : Sight), (⟨1, 9, (rangeF 25 26)⟩ : Sight)])).hear, (bookL ([(⟨1, 9, (pointF 20)⟩ : Sight), (⟨1, 9, (rangeF 25 26)⟩ : Sight)])).br, (bookL ([(⟨1, 9, (pointF 20)⟩ : Sight), (⟨1, 9, (rangeF 25 26)⟩ : Sight)])).cr, (bookL ([(⟨1, 9, (pointF 20)⟩ : Sight), (⟨1, 9, (rangeF 25 26)⟩ : Sight)])).sl, [(⟨1, 9, (pointF 20)⟩ : Sight), (⟨1, 9, (rangeF 25 26)⟩ : Sight)]⟩ : Book) from rfl]; exact ⟨own_lt (id := 2) (e := 65) (sz := 5) (li := (bookL ([(⟨1, 9, (pointF 20)⟩ : Sight), (⟨1, 9, (rangeF 25 26)⟩ : Sight)])).ships) (enc := encShip) (z := zShip) h (by kernel_rfl), own_lt (id := 1) (e := 70) (sz := 4) (li := ([(⟨1, 9, (pointF 20)⟩ : Sight), (⟨1, 9, (rangeF 25 26)⟩ : Sight)])) (enc := encSight) (z := zSight) h (by kernel_rfl), trivial⟩, by rw [show tornL = (⟨(bookL ([(⟨1, 9, (pointF 20)⟩ : Sight), (⟨1, 9, (rangeF 25 26)⟩ : Sight)])).ships, (bookL ([(⟨1, 9, (pointF 20)⟩ : Sight), (⟨1, 9, (rangeF 25 26)⟩ : Sight)])).hear, (bookL ([(⟨1, 9, (pointF 20)⟩ : Sight), (⟨1, 9, (rangeF 25 26)⟩ : Sight)])).br, (bookL ([(⟨1, 9, (pointF 20)⟩ : Sight), (⟨1, 9, (rangeF 25 26)⟩ : Sight)])).cr, (bookL ([(⟨1, 9, (pointF 20)⟩ : Sight), (⟨1, 9, (rangeF 25 26)⟩ : Sight)])).sl, [(⟨1, 9, (pointF 20)⟩ : Sight), (⟨1, 9, (rangeF 25 26)⟩ : Sight)]⟩ : Book) from rfl]; exact ⟨⟨fun g h1 h2 h3 h4 => own_apart h (i := 2) (j := 1) (x := .sl .own 65 5 (bookL ([(⟨1, 9, (pointF 20)⟩ : Sight), (⟨1, 9, (rangeF 25 26)⟩ : Sight)])).ships encShip zShip) (y := .sl .own 70 4 ([(⟨1, 9, (pointF 20)⟩ : Sight), (⟨1, 9, (rangeF 25 26)⟩ : Sight)]) encSight zSight) (by kernel_rfl) (by kernel_rfl) (by decide) rfl g h1 h3, trivial⟩, trivial, trivial⟩⟩⟩
end Go.Proofs.YtamimgmoomcipaaDoor.Lw
namespace Go.Proofs.YtamimgmoomcipaaDoor.Lw
open Go Go.RowKit Go.Proofs.YtamimgmoomcipaaDoor.Eng Go.Proofs.YtamimgmoomcipaaDoor.Fw Go.Proofs.YtamimgmoomcipaaDoor.Rf
set_option linter.unusedVariables false
set_option linter.unusedSimpArgs false
def passedL  : Bool :=
  (bif ((((((((((hearA ownL).2 != 0) || ((nearA sightedL 1 14).2 != 0)) || ((whenA ownL 1).2 != 0)) || ((clearA ownL 4).2 != 0)) || ((mayA ownL 5).2 != 0)) || (!((hearA ownL).1.lo == (rangeF 36 40).lo && (hearA ownL).1.hi == (rangeF 36 40).hi))) || ((nearA sightedL 1 14).1 != 2)) || (!((whenA ownL 1).1.lo == (rangeF 13 17).lo && (whenA ownL 1).1.hi == (rangeF 13 17).hi))) || ((clearA ownL 4).1 != 1)) || ((mayA ownL 5).1 != 10) then false else ((((((((nextA sightedL 4).2 == 0) && ((wrongA tornL).2 == 0)) && ((rightA ownL).2 == 0)) && ((freeA ownL).2 == 0)) && ((nextA sightedL 4).1 == 15)) && (alikeF (wrongA tornL).1 (bif (true && (((((((nextA sightedL 4).2 == 0) && ((wrongA tornL).2 == 0)) && ((rightA ownL).2 == 0)) && ((freeA ownL).2 == 0)) && ((nextA sightedL 4).1 == 15)) == true)) then [0] else []))) && (rightA ownL).1) && (((freeA ownL).1.length : Int) == 47))
theorem passedL_calls   (w : World)  (ha : AsksAt w) : Calls Tryd.prog 18 #[] w fun e w' => e = .returned (.bool passedL) ∧ Below w.heap.size w w' := by
  refine calls_of_WP (cx := cx0 w Eng.n0 0) (n := Eng.n0) (vs := []) (hp := [(0, .pf AsksAt (· = 0))]) (nx := 1) tt_ok Tryd.func18 rfl rfl rfl (by kernel_rfl) (HSat_args (fun _ => rfl) (by decide) ⟨⟨⟨ha, fun w1 w2 h1 hw => (hw 0 rfl).trans h1, fun g hg => by cases hg; exact (Array.getElem?_eq_some_iff.1 ha).1⟩, (Nat.le_of_ble_eq_true rfl)⟩, trivial⟩) (vsOk (by kernel_rfl)) ?_
  refine WP_seq (WP_region (WPO_all tt_ok (by kernel_rfl) ?_))
  refine WP_seq (WP_region (CALLRS 52 [] (.g [.ref 1, .int .i64 ownL.hear.lo, .int .i64 ownL.hear.hi, .int .i64 ownL.br, .int .i64 ownL.cr, .int .i64 ownL.sl, .ref 2]) [⟨65, 5, _, ownL.ships, encShip, zShip⟩, ⟨70, 4, _, ownL.sights, encSight, zSight⟩] 1 (by kernel_rfl) (by kernel_rfl) (goes_of (by kernel_rfl)) (by kernel_rfl) (by kernel_rfl) ⟨⟨(Nat.le_of_ble_eq_true rfl), fun _ => rfl⟩, ⟨(Nat.le_of_ble_eq_true rfl), fun _ => rfl⟩, trivial⟩ (fun nV w h => (ownL_calls   w  ).mono fun e w' ⟨v0, v1, h1, h2, h3, _⟩ => ⟨[v0, v1], h1, h2, h3⟩) ?_))
  refine CALL 27 [.g [.ref 1, .int .i64 ownL.hear.lo, .int .i64 ownL.hear.hi, .int .i64 ownL.br, .int .i64 ownL.cr, .int .i64 ownL.sl, .ref 2]] (.t [(true, [.int .i64 (hearA ownL).1.lo, .int .i64 (hearA ownL).1.hi]), (false, [.int .i64 (hearA ownL).2])]) [] (by kernel_rfl) (goes_of (by kernel_rfl)) (by kernel_rfl) (by kernel_rfl) (fun _ nV w h => hearA_calls (nV 1) (nV 2) ownL w (h.reads (id := 1) (kd := .ro) (e := 65) (by kernel_rfl)) (h.reads (id := 2) (kd := .ro) (e := 70) (by kernel_rfl)) (h.ents (0, .pf AsksAt (· = 0)) (fnd_mem (by kernel_rfl))).1 ) ?_
  refine WPO_all tt_ok (by kernel_rfl) ?_
  refine WP_seq (WP_region (CALLRS 55 [] (.g [.ref 4, .int .i64 sightedL.hear.lo, .int .i64 sightedL.hear.hi, .int .i64 sightedL.br, .int .i64 sightedL.cr, .int .i64 sightedL.sl, .ref 5]) [⟨65, 5, _, sightedL.ships, encShip, zShip⟩, ⟨70, 4, _, sightedL.sights, encSight, zSight⟩] 4 (by kernel_rfl) (by kernel_rfl) (goes_of (by kernel_rfl)) (by kernel_rfl) (by kernel_rfl) ⟨⟨(Nat.le_of_ble_eq_true rfl), fun _ => rfl⟩, ⟨(Nat.le_of_ble_eq_true rfl), fun _ => rfl⟩, trivial⟩ (fun nV w h => (sightedL_calls   w  ).mono fun e w' ⟨v0, v1, h1, h2, h3, _⟩ => ⟨[v0, v1], h1, h2, h3⟩) ?_))
  refine CALL 35 [.g [.ref 4, .int .i64 sightedL.hear.lo, .int .i64 sightedL.hear.hi, .int .i64 sightedL.br, .int .i64 sightedL.cr, .int .i64 sightedL.sl, .ref 5], .s (.int .i64 1), .s (.int .i64 14)] (.t [(false, [.int .i64 (nearA sightedL 1 14).1]), (false, [.int .i64 (nearA sightedL 1 14).2])]) [] (by kernel_rfl) (goes_of (by kernel_rfl)) (by kernel_rfl) (by kernel_rfl) (fun _ nV w h => nearA_calls (nV 4) (nV 5) sightedL 1 14 w (h.reads (id := 4) (kd := .ro) (e := 65) (by kernel_rfl)) (h.reads (id := 5) (kd := .ro) (e := 70) (by kernel_rfl)) (h.ents (0, .pf AsksAt (· = 0)) (fnd_mem (by kernel_rfl))).1 ) ?_
  refine WPO_all tt_ok (by kernel_rfl) ?_
  refine WP_seq (WP_region (CALLRS 52 [] (.g [.ref 6, .int .i64 ownL.hear.lo, .int .i64 ownL.hear.hi, .int .i64 ownL.br, .int .i64 ownL.cr, .int .i64 ownL.sl, .ref 7]) [⟨65, 5, _, ownL.ships, encShip, zShip⟩, ⟨70, 4, _, ownL.sights, encSight, zSight⟩] 6 (by kernel_rfl) (by kernel_rfl) (goes_of (by kernel_rfl)) (by kernel_rfl) (by kernel_rfl) ⟨⟨(Nat.le_of_ble_eq_true rfl), fun _ => rfl⟩, ⟨(Nat.le_of_ble_eq_true rfl), fun _ => rfl⟩, trivial⟩ (fun nV w h => (ownL_calls   w  ).mono fun e w' ⟨v0, v1, h1, h2, h3, _⟩ => ⟨[v0, v1], h1, h2, h3⟩) ?_))
  refine CALL 36 [.g [.ref 6, .int .i64 ownL.hear.lo, .int .i64 ownL.hear.hi, .int .i64 ownL.br, .int .i64 ownL.cr, .int .i64 ownL.sl, .ref 7], .s (.int .i64 1)] (.t [(true, [.int .i64 (whenA ownL 1).1.lo, .int .i64 (whenA ownL 1).1.hi]), (false, [.int .i64 (whenA ownL 1).2])]) [] (by kernel_rfl) (goes_of (by kernel_rfl)) (by kernel_rfl) (by kernel_rfl) (fun _ nV w h => whenA_calls (nV 6) (nV 7) ownL 1 w (h.reads (id := 6) (kd := .ro) (e := 65) (by kernel_rfl)) (h.reads (id := 7) (kd := .ro) (e := 70) (by kernel_rfl)) (h.ents (0, .pf AsksAt (· = 0)) (fnd_mem (by kernel_rfl))).1 ) ?_
  refine WPO_all tt_ok (by kernel_rfl) ?_
  refine WP_seq (WP_region (CALLRS 52 [] (.g [.ref 9, .int .i64 ownL.hear.lo, .int .i64 ownL.hear.hi, .int .i64 ownL.br, .int .i64 ownL.cr, .int .i64 ownL.sl, .ref 10]) [⟨65, 5, _, ownL.ships, encShip, zShip⟩, ⟨70, 4, _, ownL.sights, encSight, zSight⟩] 9 (by kernel_rfl) (by kernel_rfl) (goes_of (by kernel_rfl)) (by kernel_rfl) (by kernel_rfl) ⟨⟨(Nat.le_of_ble_eq_true rfl), fun _ => rfl⟩, ⟨(Nat.le_of_ble_eq_true rfl), fun _ => rfl⟩, trivial⟩ (fun nV w h => (ownL_calls   w  ).mono fun e w' ⟨v0, v1, h1, h2, h3, _⟩ => ⟨[v0, v1], h1, h2, h3⟩) ?_))
  refine CALL 28 [.g [.ref 9, .int .i64 ownL.hear.lo, .int .i64 ownL.hear.hi, .int .i64 ownL.br, .int .i64 ownL.cr, .int .i64 ownL.sl, .ref 10], .s (.int .i64 4)] (.t [(false, [.int .i64 (clearA ownL 4).1]), (false, [.int .i64 (clearA ownL 4).2])]) [] (by kernel_rfl) (goes_of (by kernel_rfl)) (by kernel_rfl) (by kernel_rfl) (fun _ nV w h => clearA_calls (nV 9) (nV 10) ownL 4 w (h.reads (id := 9) (kd := .ro) (e := 65) (by kernel_rfl)) (h.reads (id := 10) (kd := .ro) (e := 70) (by kernel_rfl)) (h.ents (0, .pf AsksAt (· = 0)) (fnd_mem (by kernel_rfl))).1 ) ?_
  refine WPO_all tt_ok (by kernel_rfl) ?_
  refine WP_seq (WP_region (CALLRS 52 [] (.g [.ref 11, .int .i64 ownL.hear.lo, .int .i64 ownL.hear.hi, .int .i64 ownL.br, .int .i64 ownL.cr, .int .i64 ownL.sl, .ref 12]) [⟨65, 5, _, ownL.ships, encShip, zShip⟩, ⟨70, 4, _, ownL.sights, encSight, zSight⟩] 11 (by kernel_rfl) (by kernel_rfl) (goes_of (by kernel_rfl)) (by kernel_rfl) (by kernel_rfl) ⟨⟨(Nat.le_of_ble_eq_true rfl), fun _ => rfl⟩, ⟨(Nat.le_of_ble_eq_true rfl), fun _ => rfl⟩, trivial⟩ (fun nV w h => (ownL_calls   w  ).mono fun e w' ⟨v0, v1, h1, h2, h3, _⟩ => ⟨[v0, v1], h1, h2, h3⟩) ?_))
  refine CALL 29 [.g [.ref 11, .int .i64 ownL.hear.lo, .int .i64 ownL.hear.hi, .int .i64 ownL.br, .int .i64 ownL.cr, .int .i64 ownL.sl, .ref 12], .s (.int .i64 5)] (.t [(false, [.int .i64 (mayA ownL 5).1]), (false, [.int .i64 (mayA ownL 5).2])]) [] (by kernel_rfl) (goes_of (by kernel_rfl)) (by kernel_rfl) (by kernel_rfl) (fun _ nV w h => mayA_calls (nV 11) (nV 12) ownL 5 w (h.reads (id := 11) (kd := .ro) (e := 65) (by kernel_rfl)) (h.reads (id := 12) (kd := .ro) (e := 70) (by kernel_rfl)) (h.ents (0, .pf AsksAt (· = 0)) (fnd_mem (by kernel_rfl))).1 ) ?_
  refine WPO_all tt_ok (by kernel_rfl) ?_
  refine WP_seq (WP_seq (WP_draw (by kernel_rfl) (by kernel_rfl) ?_))
  refine WPQ_run tt_ok 20 (by kernel_rfl) ?_
  refine QCALL 41 [.s (.int .i64 36), .s (.int .i64 40)] (.g [.int .i64 (rangeF 36 40).lo, .int .i64 (rangeF 36 40).hi]) [((((((hearA ownL).2 != 0) || ((nearA sightedL 1 14).2 != 0)) || ((whenA ownL 1).2 != 0)) || ((clearA ownL 4).2 != 0)) || ((mayA ownL 5).2 != 0), false)] (by kernel_rfl) (goes_of (by kernel_rfl)) (by kernel_rfl) (by kernel_rfl) (fun _ nV w h => rangeF_calls  36 40 w  ) ?_
  refine QBIN .neq 24 (.tmp 59) (.tmp 60) (.g [.int .i64 (hearA ownL).1.lo, .int .i64 (hearA ownL).1.hi]) (.g [.int .i64 (rangeF 36 40).lo, .int .i64 (rangeF 36 40).hi]) (.s (.bool (!((hearA ownL).1.lo == (rangeF 36 40).lo && (hearA ownL).1.hi == (rangeF 36 40).hi)))) [((((((hearA ownL).2 != 0) || ((nearA sightedL 1 14).2 != 0)) || ((whenA ownL 1).2 != 0)) || ((clearA ownL 4).2 != 0)) || ((mayA ownL 5).2 != 0), false)] (by kernel_rfl) (by kernel_rfl) (by kernel_rfl) (fun _ => BinOk_pairN (by kernel_rfl) _ _ _ _) ?_
  refine WPQ_run tt_ok 7 (by kernel_rfl) ?_
  refine QCALL 41 [.s (.int .i64 13), .s (.int .i64 17)] (.g [.int .i64 (rangeF 13 17).lo, .int .i64 (rangeF 13 17).hi]) [((((((((hearA ownL).2 != 0) || ((nearA sightedL 1 14).2 != 0)) || ((whenA ownL 1).2 != 0)) || ((clearA ownL 4).2 != 0)) || ((mayA ownL 5).2 != 0)) || (!((hearA ownL).1.lo == (rangeF 36 40).lo && (hearA ownL).1.hi == (rangeF 36 40).hi))) || ((nearA sightedL 1 14).1 != 2), false)] (by kernel_rfl) (goes_of (by kernel_rfl)) (by kernel_rfl) (by kernel_rfl) (fun _ nV w h => rangeF_calls  13 17 w  ) ?_
  refine QBIN .neq 24 (.tmp 68) (.tmp 69) (.g [.int .i64 (whenA ownL 1).1.lo, .int .i64 (whenA ownL 1).1.hi]) (.g [.int .i64 (rangeF 13 17).lo, .int .i64 (rangeF 13 17).hi]) (.s (.bool (!((whenA ownL 1).1.lo == (rangeF 13 17).lo && (whenA ownL 1).1.hi == (rangeF 13 17).hi)))) [((((((((hearA ownL).2 != 0) || ((nearA sightedL 1 14).2 != 0)) || ((whenA ownL 1).2 != 0)) || ((clearA ownL 4).2 != 0)) || ((mayA ownL 5).2 != 0)) || (!((hearA ownL).1.lo == (rangeF 36 40).lo && (hearA ownL).1.hi == (rangeF 36 40).hi))) || ((nearA sightedL 1 14).1 != 2), false)] (by kernel_rfl) (by kernel_rfl) (by kernel_rfl) (fun _ => BinOk_pairN (by kernel_rfl) _ _ _ _) ?_
  refine WPQ_all tt_ok (by kernel_rfl) ?_
  refine WP_cond (((((((((((hearA ownL).2 != 0) || ((nearA sightedL 1 14).2 != 0)) || ((whenA ownL 1).2 != 0)) || ((clearA ownL 4).2 != 0)) || ((mayA ownL 5).2 != 0)) || (!((hearA ownL).1.lo == (rangeF 36 40).lo && (hearA ownL).1.hi == (rangeF 36 40).hi))) || ((nearA sightedL 1 14).1 != 2)) || (!((whenA ownL 1).1.lo == (rangeF 13 17).lo && (whenA ownL 1).1.hi == (rangeF 13 17).hi))) || ((clearA ownL 4).1 != 1)) || ((mayA ownL 5).1 != 10)) (by kernel_rfl) (fun hc2 => ?_) (fun hc2 => ?_)
  · have hc2' := hc2; try simp only [Bool.and_eq_true, Bool.or_eq_true, Bool.and_eq_false_iff, Bool.or_eq_false_iff, Bool.not_eq_true', Bool.not_eq_false', decide_eq_true_eq, decide_eq_false_iff_not, beq_iff_eq, beq_eq_false_iff_ne, bne_iff_ne, bne_eq_false_iff_eq, ne_eq] at hc2'
    refine WP_seq (WP_region (WPO_all tt_ok (by kernel_rfl) ?_))
    refine WP_ret ?_
    exact ⟨.s (.bool false), by kernel_rfl, fun nV w' h => ⟨by rw [show passedL = false from by unfold passedL; simp only [hc2, cond_true, cond_false]]; rfl, h.bel⟩⟩
  have hc2' := hc2; try simp only [Bool.and_eq_true, Bool.or_eq_true, Bool.and_eq_false_iff, Bool.or_eq_false_iff, Bool.not_eq_true', Bool.not_eq_false', decide_eq_true_eq, decide_eq_false_iff_not, beq_iff_eq, beq_eq_false_iff_ne, bne_iff_ne, bne_eq_false_iff_eq, ne_eq] at hc2'
  refine WP_skip ?_
  refine WP_seq (WP_region (CALLRS 55 [] (.g [.ref 13, .int .i64 sightedL.hear.lo, .int .i64 sightedL.hear.hi, .int .i64 sightedL.br, .int .i64 sightedL.cr, .int .i64 sightedL.sl, .ref 14]) [⟨65, 5, _, sightedL.ships, encShip, zShip⟩, ⟨70, 4, _, sightedL.sights, encSight, zSight⟩] 13 (by kernel_rfl) (by kernel_rfl) (goes_of (by kernel_rfl)) (by kernel_rfl) (by kernel_rfl) ⟨⟨(Nat.le_of_ble_eq_true rfl), fun _ => rfl⟩, ⟨(Nat.le_of_ble_eq_true rfl), fun _ => rfl⟩, trivial⟩ (fun nV w h => (sightedL_calls   w  ).mono fun e w' ⟨v0, v1, h1, h2, h3, _⟩ => ⟨[v0, v1], h1, h2, h3⟩) ?_))
  refine CALL 42 [.g [.ref 13, .int .i64 sightedL.hear.lo, .int .i64 sightedL.hear.hi, .int .i64 sightedL.br, .int .i64 sightedL.cr, .int .i64 sightedL.sl, .ref 14], .s (.int .i64 4)] (.t [(false, [.int .i64 (nextA sightedL 4).1]), (false, [.int .i64 (nextA sightedL 4).2])]) [] (by kernel_rfl) (goes_of (by kernel_rfl)) (by kernel_rfl) (by kernel_rfl) (fun _ nV w h => nextA_calls (nV 13) (nV 14) sightedL 4 w (h.reads (id := 13) (kd := .ro) (e := 65) (by kernel_rfl)) (h.reads (id := 14) (kd := .ro) (e := 70) (by kernel_rfl)) (h.ents (0, .pf AsksAt (· = 0)) (fnd_mem (by kernel_rfl))).1 ) ?_
  refine WPO_all tt_ok (by kernel_rfl) ?_
  refine WP_seq (WP_region (CALLRS 54 [] (.g [.ref 15, .int .i64 tornL.hear.lo, .int .i64 tornL.hear.hi, .int .i64 tornL.br, .int .i64 tornL.cr, .int .i64 tornL.sl, .ref 16]) [⟨65, 5, _, tornL.ships, encShip, zShip⟩, ⟨70, 4, _, tornL.sights, encSight, zSight⟩] 15 (by kernel_rfl) (by kernel_rfl) (goes_of (by kernel_rfl)) (by kernel_rfl) (by kernel_rfl) ⟨⟨(Nat.le_of_ble_eq_true rfl), fun _ => rfl⟩, ⟨(Nat.le_of_ble_eq_true rfl), fun _ => rfl⟩, trivial⟩ (fun nV w h => (tornL_calls   w  ).mono fun e w' ⟨v0, v1, h1, h2, h3, _⟩ => ⟨[v0, v1], h1, h2, h3⟩) ?_))
  refine CALLR 26 [.g [.ref 15, .int .i64 tornL.hear.lo, .int .i64 tornL.hear.hi, .int .i64 tornL.br, .int .i64 tornL.cr, .int .i64 tornL.sl, .ref 16]] (.t [(false, [.ref 17]), (false, [.int .i64 (wrongA tornL).2])]) 3 1 (wrongA tornL).1 encI 0 17 (by kernel_rfl) (by kernel_rfl) (goes_of (by kernel_rfl)) (by kernel_rfl) (by kernel_rfl) (by decide) (fun _ => rfl) (fun nV w h => (wrongA_calls (nV 15) (nV 16) tornL w (h.reads (id := 15) (kd := .ro) (e := 65) (by kernel_rfl)) (h.reads (id := 16) (kd := .ro) (e := 70) (by kernel_rfl)) ).mono fun e w' h1 => weak_fresh h1) ?_
  refine WPO_all tt_ok (by kernel_rfl) ?_
  refine WP_seq (WP_region (CALLRS 52 [] (.g [.ref 18, .int .i64 ownL.hear.lo, .int .i64 ownL.hear.hi, .int .i64 ownL.br, .int .i64 ownL.cr, .int .i64 ownL.sl, .ref 19]) [⟨65, 5, _, ownL.ships, encShip, zShip⟩, ⟨70, 4, _, ownL.sights, encSight, zSight⟩] 18 (by kernel_rfl) (by kernel_rfl) (goes_of (by kernel_rfl)) (by kernel_rfl) (by kernel_rfl) ⟨⟨(Nat.le_of_ble_eq_true rfl), fun _ => rfl⟩, ⟨(Nat.le_of_ble_eq_true rfl), fun _ => rfl⟩, trivial⟩ (fun nV w h => (ownL_calls   w  ).mono fun e w' ⟨v0, v1, h1, h2, h3, _⟩ => ⟨[v0, v1], h1, h2, h3⟩) ?_))
  refine CALL 25 [.g [.ref 18, .int .i64 ownL.hear.lo, .int .i64 ownL.hear.hi, .int .i64 ownL.br, .int .i64 ownL.cr, .int .i64 ownL.sl, .ref 19]] (.t [(false, [.bool (rightA ownL).1]), (false, [.int .i64 (rightA ownL).2])]) [] (by kernel_rfl) (goes_of (by kernel_rfl)) (by kernel_rfl) (by kernel_rfl) (fun _ nV w h => rightA_calls (nV 18) (nV 19) ownL w (h.reads (id := 18) (kd := .ro) (e := 65) (by kernel_rfl)) (h.reads (id := 19) (kd := .ro) (e := 70) (by kernel_rfl)) ) ?_
  refine WPO_all tt_ok (by kernel_rfl) ?_
  refine WP_seq (WP_region (CALLRS 52 [] (.g [.ref 20, .int .i64 ownL.hear.lo, .int .i64 ownL.hear.hi, .int .i64 ownL.br, .int .i64 ownL.cr, .int .i64 ownL.sl, .ref 21]) [⟨65, 5, _, ownL.ships, encShip, zShip⟩, ⟨70, 4, _, ownL.sights, encSight, zSight⟩] 20 (by kernel_rfl) (by kernel_rfl) (goes_of (by kernel_rfl)) (by kernel_rfl) (by kernel_rfl) ⟨⟨(Nat.le_of_ble_eq_true rfl), fun _ => rfl⟩, ⟨(Nat.le_of_ble_eq_true rfl), fun _ => rfl⟩, trivial⟩ (fun nV w h => (ownL_calls   w  ).mono fun e w' ⟨v0, v1, h1, h2, h3, _⟩ => ⟨[v0, v1], h1, h2, h3⟩) ?_))
  refine CALLR 30 [.g [.ref 20, .int .i64 ownL.hear.lo, .int .i64 ownL.hear.hi, .int .i64 ownL.br, .int .i64 ownL.cr, .int .i64 ownL.sl, .ref 21]] (.t [(false, [.ref 22]), (false, [.int .i64 (freeA ownL).2])]) 3 1 (freeA ownL).1 encI 0 22 (by kernel_rfl) (by kernel_rfl) (goes_of (by kernel_rfl)) (by kernel_rfl) (by kernel_rfl) (by decide) (fun _ => rfl) (fun nV w h => (freeA_calls (nV 20) (nV 21) ownL w (h.reads (id := 20) (kd := .ro) (e := 65) (by kernel_rfl)) (h.reads (id := 21) (kd := .ro) (e := 70) (by kernel_rfl)) (h.ents (0, .pf AsksAt (· = 0)) (fnd_mem (by kernel_rfl))).1 ).mono fun e w' h1 => weak_fresh h1) ?_
  refine WPO_all tt_ok (by kernel_rfl) ?_
  refine WP_seq (WP_region (WPO_run tt_ok 20 (by kernel_rfl) ?_))
  refine LITG tt_ok [(118, true)] (true && (((((((nextA sightedL 4).2 == 0) && ((wrongA tornL).2 == 0)) && ((rightA ownL).2 == 0)) && ((freeA ownL).2 == 0)) && ((nextA sightedL 4).1 == 15)) == true)) 3 1 1 [.int .i64 0] [0] encI 0 (by kernel_rfl) (by kernel_rfl) rfl (fun _ => rfl) (fun n => rfl) (by kernel_rfl) ?_
  refine CALL 65 [.s (.ref 17), .s (.ref 23)] (.s (.bool (alikeF (wrongA tornL).1 (bif (true && (((((((nextA sightedL 4).2 == 0) && ((wrongA tornL).2 == 0)) && ((rightA ownL).2 == 0)) && ((freeA ownL).2 == 0)) && ((nextA sightedL 4).1 == 15)) == true)) then [0] else [])))) [((((((nextA sightedL 4).2 == 0) && ((wrongA tornL).2 == 0)) && ((rightA ownL).2 == 0)) && ((freeA ownL).2 == 0)) && ((nextA sightedL 4).1 == 15), true)] (by kernel_rfl) (goes_of (by kernel_rfl)) (by kernel_rfl) (by kernel_rfl) (fun _ nV w h => alikeF_calls (nV 17) (nV 23) (wrongA tornL).1 (bif (true && (((((((nextA sightedL 4).2 == 0) && ((wrongA tornL).2 == 0)) && ((rightA ownL).2 == 0)) && ((freeA ownL).2 == 0)) && ((nextA sightedL 4).1 == 15)) == true)) then [0] else []) w (h.reads (id := 17) (kd := .ro) (e := 3) (by kernel_rfl)) (h.reads (id := 23) (kd := .own) (e := 3) (by kernel_rfl)) ) ?_
  refine WPO_all tt_ok (by kernel_rfl) ?_
  refine WP_ret ?_
  exact ⟨.s (.bool (((((((((nextA sightedL 4).2 == 0) && ((wrongA tornL).2 == 0)) && ((rightA ownL).2 == 0)) && ((freeA ownL).2 == 0)) && ((nextA sightedL 4).1 == 15)) && (alikeF (wrongA tornL).1 (bif (true && (((((((nextA sightedL 4).2 == 0) && ((wrongA tornL).2 == 0)) && ((rightA ownL).2 == 0)) && ((freeA ownL).2 == 0)) && ((nextA sightedL 4).1 == 15)) == true)) then [0] else []))) && (rightA ownL).1) && (((freeA ownL).1.length : Int) == 47))), by kernel_rfl, fun nV w' h => ⟨by rw [show passedL = (((((((((nextA sightedL 4).2 == 0) && ((wrongA tornL).2 == 0)) && ((rightA ownL).2 == 0)) && ((freeA ownL).2 == 0)) && ((nextA sightedL 4).1 == 15)) && (alikeF (wrongA tornL).1 (bif (true && (((((((nextA sightedL 4).2 == 0) && ((wrongA tornL).2 == 0)) && ((rightA ownL).2 == 0)) && ((freeA ownL).2 == 0)) && ((nextA sightedL 4).1 == 15)) == true)) then [0] else []))) && (rightA ownL).1) && (((freeA ownL).1.length : Int) == 47)) from by unfold passedL; simp only [hc2, cond_true, cond_false]]; rfl, h.bel⟩⟩
end Go.Proofs.YtamimgmoomcipaaDoor.Lw
namespace Go.Proofs.YtamimgmoomcipaaDoor.Lw
open Go Go.RowKit Go.Proofs.YtamimgmoomcipaaDoor.Eng Go.Proofs.YtamimgmoomcipaaDoor.Fw Go.Proofs.YtamimgmoomcipaaDoor.Rf
set_option linter.unusedVariables false
set_option linter.unusedSimpArgs false
def freesL (own : Book) (b : Book) : Bool :=
  (bif (!(alikeF (freeA own).1 (freeAR b).1)) || ((freeA own).2 != (freeAR b).2) then false else (alikeF (wrongA own).1 (wrongR b).1) && ((wrongA own).2 == (wrongR b).2))
theorem freesL_calls (g0 g1 g2 g3 : Value) (own : Book) (b : Book) (w : World) (r0 : Reads w g0 5 own.ships encShip zShip) (r1 : Reads w g1 4 own.sights encSight zSight) (r2 : Reads w g2 5 b.ships encShip zShip) (r3 : Reads w g3 4 b.sights encSight zSight) (ha : AsksAt w) : Calls Tryd.prog 20 #[.agg #[g0, iv own.hear.lo, iv own.hear.hi, iv own.br, iv own.cr, iv own.sl, g1], .agg #[g2, iv b.hear.lo, iv b.hear.hi, iv b.br, iv b.cr, iv b.sl, g3]] w fun e w' => e = .returned (.bool (freesL own b)) ∧ Below w.heap.size w w' := by
  refine calls_of_WP (cx := cx0 w (vn [g0, g1, g2, g3]) 4) (n := vn [g0, g1, g2, g3]) (vs := [.g [.ref 0, .int .i64 own.hear.lo, .int .i64 own.hear.hi, .int .i64 own.br, .int .i64 own.cr, .int .i64 own.sl, .ref 1], .g [.ref 2, .int .i64 b.hear.lo, .int .i64 b.hear.hi, .int .i64 b.br, .int .i64 b.cr, .int .i64 b.sl, .ref 3]]) (hp := [(0, .sl .ro 65 5 own.ships encShip zShip), (1, .sl .ro 70 4 own.sights encSight zSight), (2, .sl .ro 65 5 b.ships encShip zShip), (3, .sl .ro 70 4 b.sights encSight zSight), (4, .pf AsksAt (· = 0))]) (nx := 5) tt_ok Tryd.func20 rfl rfl rfl (by kernel_rfl) (HSat_args (vn_one (by simp [r0.one, r1.one, r2.one, r3.one])) (by decide) ⟨⟨⟨fun _ => rfl, by decide, r0⟩, (Nat.le_of_ble_eq_true rfl)⟩, ⟨⟨fun _ => rfl, by decide, r1⟩, (Nat.le_of_ble_eq_true rfl)⟩, ⟨⟨fun _ => rfl, by decide, r2⟩, (Nat.le_of_ble_eq_true rfl)⟩, ⟨⟨fun _ => rfl, by decide, r3⟩, (Nat.le_of_ble_eq_true rfl)⟩, ⟨⟨ha, fun w1 w2 h1 hw => (hw 0 rfl).trans h1, fun g hg => by cases hg; exact (Array.getElem?_eq_some_iff.1 ha).1⟩, (Nat.le_of_ble_eq_true rfl)⟩, trivial⟩) (vsOk (by kernel_rfl)) ?_
  have hl0 := Reads.len r0
  have hl1 := Reads.len r1
  have hl2 := Reads.len r2
  have hl3 := Reads.len r3
  refine WP_seq (WP_region (WPO_all tt_ok (by kernel_rfl) ?_))
  refine WP_seq (WP_region (WPO_run tt_ok 1 (by kernel_rfl) ?_))
  refine CALLR 30 [.g [.ref 0, .int .i64 own.hear.lo, .int .i64 own.hear.hi, .int .i64 own.br, .int .i64 own.cr, .int .i64 own.sl, .ref 1]] (.t [(false, [.ref 7]), (false, [.int .i64 (freeA own).2])]) 3 1 (freeA own).1 encI 0 7 (by kernel_rfl) (by kernel_rfl) (goes_of (by kernel_rfl)) (by kernel_rfl) (by kernel_rfl) (by decide) (fun _ => rfl) (fun nV w h => (freeA_calls (nV 0) (nV 1) own w (h.reads (id := 0) (kd := .ro) (e := 65) (by kernel_rfl)) (h.reads (id := 1) (kd := .ro) (e := 70) (by kernel_rfl)) (h.ents (4, .pf AsksAt (· = 0)) (fnd_mem (by kernel_rfl))).1 ).mono fun e w' h1 => weak_fresh h1) ?_
  refine WPO_all tt_ok (by kernel_rfl) ?_
  refine WP_seq (WP_region (WPO_run tt_ok 1 (by kernel_rfl) ?_))
  refine CALLO 69 [.g [.ref 2, .int .i64 b.hear.lo, .int .i64 b.hear.hi, .int .i64 b.br, .int .i64 b.cr, .int .i64 b.sl, .ref 3]] (.t [(false, [.ref 8]), (false, [.int .i64 (freeAR b).2])]) 3 1 (freeAR b).1 encI 0 8 (by kernel_rfl) (by kernel_rfl) (goes_of (by kernel_rfl)) (by kernel_rfl) (by kernel_rfl) (fun _ => rfl) ((fun nV w h => freeAR_calls (nV 2) (nV 3) b w (h.reads (id := 2) (kd := .ro) (e := 65) (by kernel_rfl)) (h.reads (id := 3) (kd := .ro) (e := 70) (by kernel_rfl)) )) ?_
  refine WPO_all tt_ok (by kernel_rfl) ?_
  refine WP_seq (WP_seq (WP_region (WPO_run tt_ok 2 (by kernel_rfl) ?_)))
  refine CALL 65 [.s (.ref 7), .s (.ref 8)] (.s (.bool (alikeF (freeA own).1 (freeAR b).1))) [] (by kernel_rfl) (goes_of (by kernel_rfl)) (by kernel_rfl) (by kernel_rfl) (fun _ nV w h => alikeF_calls (nV 7) (nV 8) (freeA own).1 (freeAR b).1 w (h.reads (id := 7) (kd := .ro) (e := 3) (by kernel_rfl)) (h.reads (id := 8) (kd := .own) (e := 3) (by kernel_rfl)) ) ?_
  refine WPO_all tt_ok (by kernel_rfl) ?_
  refine WP_cond ((!(alikeF (freeA own).1 (freeAR b).1)) || ((freeA own).2 != (freeAR b).2)) (by kernel_rfl) (fun hc2 => ?_) (fun hc2 => ?_)
  · have hc2' := hc2; try simp only [Bool.and_eq_true, Bool.or_eq_true, Bool.and_eq_false_iff, Bool.or_eq_false_iff, Bool.not_eq_true', Bool.not_eq_false', decide_eq_true_eq, decide_eq_false_iff_not, beq_iff_eq, beq_eq_false_iff_ne, bne_iff_ne, bne_eq_false_iff_eq, ne_eq] at hc2'
    refine WP_seq (WP_region (WPO_all tt_ok (by kernel_rfl) ?_))
    refine WP_ret ?_
    exact ⟨.s (.bool false), by kernel_rfl, fun nV w' h => ⟨by rw [show freesL own b = false from by unfold freesL; simp only [hc2, cond_true, cond_false]]; rfl, h.bel⟩⟩
  have hc2' := hc2; try simp only [Bool.and_eq_true, Bool.or_eq_true, Bool.and_eq_false_iff, Bool.or_eq_false_iff, Bool.not_eq_true', Bool.not_eq_false', decide_eq_true_eq, decide_eq_false_iff_not, beq_iff_eq, beq_eq_false_iff_ne, bne_iff_ne, bne_eq_false_iff_eq, ne_eq] at hc2'
  refine WP_skip ?_
  refine WP_seq (WP_region (WPO_run tt_ok 1 (by kernel_rfl) ?_))
  refine CALLR 26 [.g [.ref 0, .int .i64 own.hear.lo, .int .i64 own.hear.hi, .int .i64 own.br, .int .i64 own.cr, .int .i64 own.sl, .ref 1]] (.t [(false, [.ref 9]), (false, [.int .i64 (wrongA own).2])]) 3 1 (wrongA own).1 encI 0 9 (by kernel_rfl) (by kernel_rfl) (goes_of (by kernel_rfl)) (by kernel_rfl) (by kernel_rfl) (by decide) (fun _ => rfl) (fun nV w h => (wrongA_calls (nV 0) (nV 1) own w (h.reads (id := 0) (kd := .ro) (e := 65) (by kernel_rfl)) (h.reads (id := 1) (kd := .ro) (e := 70) (by kernel_rfl)) ).mono fun e w' h1 => weak_fresh h1) ?_
  refine WPO_all tt_ok (by kernel_rfl) ?_
  refine WP_seq (WP_region (WPO_run tt_ok 1 (by kernel_rfl) ?_))
  refine CALLO 70 [.g [.ref 2, .int .i64 b.hear.lo, .int .i64 b.hear.hi, .int .i64 b.br, .int .i64 b.cr, .int .i64 b.sl, .ref 3]] (.t [(false, [.ref 10]), (false, [.int .i64 (wrongR b).2])]) 3 1 (wrongR b).1 encI 0 10 (by kernel_rfl) (by kernel_rfl) (goes_of (by kernel_rfl)) (by kernel_rfl) (by kernel_rfl) (fun _ => rfl) ((fun nV w h => wrongR_calls (nV 2) (nV 3) b w (h.reads (id := 2) (kd := .ro) (e := 65) (by kernel_rfl)) (h.reads (id := 3) (kd := .ro) (e := 70) (by kernel_rfl)) )) ?_
  refine WPO_all tt_ok (by kernel_rfl) ?_
  refine WP_seq (WP_region (WPO_run tt_ok 2 (by kernel_rfl) ?_))
  refine CALL 65 [.s (.ref 9), .s (.ref 10)] (.s (.bool (alikeF (wrongA own).1 (wrongR b).1))) [] (by kernel_rfl) (goes_of (by kernel_rfl)) (by kernel_rfl) (by kernel_rfl) (fun _ nV w h => alikeF_calls (nV 9) (nV 10) (wrongA own).1 (wrongR b).1 w (h.reads (id := 9) (kd := .ro) (e := 3) (by kernel_rfl)) (h.reads (id := 10) (kd := .own) (e := 3) (by kernel_rfl)) ) ?_
  refine WPO_all tt_ok (by kernel_rfl) ?_
  refine WP_ret ?_
  exact ⟨.s (.bool ((alikeF (wrongA own).1 (wrongR b).1) && ((wrongA own).2 == (wrongR b).2))), by kernel_rfl, fun nV w' h => ⟨by rw [show freesL own b = ((alikeF (wrongA own).1 (wrongR b).1) && ((wrongA own).2 == (wrongR b).2)) from by unfold freesL; simp only [hc2, cond_true, cond_false]]; rfl, h.bel⟩⟩
def FairwayFreesL (b : Book) : Bool :=
  ((freesL (ownFairwayF b) b) && (keptFairwayF (ownFairwayF b) b)) && passedL
theorem FairwayFreesL_calls (g0 g1 : Value) (b : Book) (w : World) (r0 : Reads w g0 5 b.ships encShip zShip) (r1 : Reads w g1 4 b.sights encSight zSight) (ha : AsksAt w) (hL0 : b.ships.length * 40 ≤ 140737488355328) (hL1 : b.sights.length * 32 ≤ 140737488355328) : Calls Tryd.prog 5 #[.agg #[g0, iv b.hear.lo, iv b.hear.hi, iv b.br, iv b.cr, iv b.sl, g1]] w fun e w' => e = .returned (.bool (FairwayFreesL b)) ∧ Below w.heap.size w w' := by
  refine calls_of_WP (cx := cx0 w (vn [g0, g1]) 2) (n := vn [g0, g1]) (vs := [.g [.ref 0, .int .i64 b.hear.lo, .int .i64 b.hear.hi, .int .i64 b.br, .int .i64 b.cr, .int .i64 b.sl, .ref 1]]) (hp := [(0, .sl .ro 65 5 b.ships encShip zShip), (1, .sl .ro 70 4 b.sights encSight zSight), (2, .pf AsksAt (· = 0))]) (nx := 3) tt_ok Tryd.func5 rfl rfl rfl (by kernel_rfl) (HSat_args (vn_one (by simp [r0.one, r1.one])) (by decide) ⟨⟨⟨fun _ => rfl, by decide, r0⟩, (Nat.le_of_ble_eq_true rfl)⟩, ⟨⟨fun _ => rfl, by decide, r1⟩, (Nat.le_of_ble_eq_true rfl)⟩, ⟨⟨ha, fun w1 w2 h1 hw => (hw 0 rfl).trans h1, fun g hg => by cases hg; exact (Array.getElem?_eq_some_iff.1 ha).1⟩, (Nat.le_of_ble_eq_true rfl)⟩, trivial⟩) (vsOk (by kernel_rfl)) ?_
  have hl0 := Reads.len r0
  have hl1 := Reads.len r1
  refine WP_seq (WP_region (WPO_all tt_ok (by kernel_rfl) ?_))
  refine WP_seq (WP_region (WPO_run tt_ok 1 (by kernel_rfl) ?_))
  refine CALLRS 15 [.g [.ref 0, .int .i64 b.hear.lo, .int .i64 b.hear.hi, .int .i64 b.br, .int .i64 b.cr, .int .i64 b.sl, .ref 1]] (.g [.ref 4, .int .i64 (ownFairwayF b).hear.lo, .int .i64 (ownFairwayF b).hear.hi, .int .i64 (ownFairwayF b).br, .int .i64 (ownFairwayF b).cr, .int .i64 (ownFairwayF b).sl, .ref 5]) [⟨65, 5, _, (ownFairwayF b).ships, encShip, zShip⟩, ⟨70, 4, _, (ownFairwayF b).sights, encSight, zSight⟩] 4 (by kernel_rfl) (by kernel_rfl) (goes_of (by kernel_rfl)) (by kernel_rfl) (by kernel_rfl) ⟨⟨(Nat.le_of_ble_eq_true rfl), fun _ => rfl⟩, ⟨(Nat.le_of_ble_eq_true rfl), fun _ => rfl⟩, trivial⟩ (fun nV w h => (ownFairwayF_calls (nV 0) (nV 1) b w (h.reads (id := 0) (kd := .ro) (e := 65) (by kernel_rfl)) (h.reads (id := 1) (kd := .ro) (e := 70) (by kernel_rfl)) (by first | assumption | omega | exact checkR_valid hl0 (by assumption) | exact askR_valid hl0 (by assumption)) (by first | assumption | omega | exact checkR_valid hl0 (by assumption) | exact askR_valid hl0 (by assumption))).mono fun e w' ⟨v0, v1, h1, h2, h3, _⟩ => ⟨[v0, v1], h1, h2, h3⟩) ?_
  refine WPO_all tt_ok (by kernel_rfl) ?_
  refine WP_seq (WP_region (WPO_run tt_ok 2 (by kernel_rfl) ?_))
  refine CALL 20 [.g [.ref 4, .int .i64 (ownFairwayF b).hear.lo, .int .i64 (ownFairwayF b).hear.hi, .int .i64 (ownFairwayF b).br, .int .i64 (ownFairwayF b).cr, .int .i64 (ownFairwayF b).sl, .ref 5], .g [.ref 0, .int .i64 b.hear.lo, .int .i64 b.hear.hi, .int .i64 b.br, .int .i64 b.cr, .int .i64 b.sl, .ref 1]] (.s (.bool (freesL (ownFairwayF b) b))) [] (by kernel_rfl) (goes_of (by kernel_rfl)) (by kernel_rfl) (by kernel_rfl) (fun _ nV w h => freesL_calls (nV 4) (nV 5) (nV 0) (nV 1) (ownFairwayF b) b w (h.reads (id := 4) (kd := .ro) (e := 65) (by kernel_rfl)) (h.reads (id := 5) (kd := .ro) (e := 70) (by kernel_rfl)) (h.reads (id := 0) (kd := .ro) (e := 65) (by kernel_rfl)) (h.reads (id := 1) (kd := .ro) (e := 70) (by kernel_rfl)) (h.ents (2, .pf AsksAt (· = 0)) (fnd_mem (by kernel_rfl))).1 ) ?_
  refine WPO_run tt_ok 3 (by kernel_rfl) ?_
  refine CALL 17 [.g [.ref 4, .int .i64 (ownFairwayF b).hear.lo, .int .i64 (ownFairwayF b).hear.hi, .int .i64 (ownFairwayF b).br, .int .i64 (ownFairwayF b).cr, .int .i64 (ownFairwayF b).sl, .ref 5], .g [.ref 0, .int .i64 b.hear.lo, .int .i64 b.hear.hi, .int .i64 b.br, .int .i64 b.cr, .int .i64 b.sl, .ref 1]] (.s (.bool (keptFairwayF (ownFairwayF b) b))) [((freesL (ownFairwayF b) b), true)] (by kernel_rfl) (goes_of (by kernel_rfl)) (by kernel_rfl) (by kernel_rfl) (fun _ nV w h => keptFairwayF_calls (nV 4) (nV 5) (nV 0) (nV 1) (ownFairwayF b) b w (h.reads (id := 4) (kd := .ro) (e := 65) (by kernel_rfl)) (h.reads (id := 5) (kd := .ro) (e := 70) (by kernel_rfl)) (h.reads (id := 0) (kd := .ro) (e := 65) (by kernel_rfl)) (h.reads (id := 1) (kd := .ro) (e := 70) (by kernel_rfl)) ) ?_
  refine WPO_run tt_ok 2 (by kernel_rfl) ?_
  refine CALL 18 [] (.s (.bool passedL)) [((freesL (ownFairwayF b) b) && (keptFairwayF (ownFairwayF b) b), true)] (by kernel_rfl) (goes_of (by kernel_rfl)) (by kernel_rfl) (by kernel_rfl) (fun _ nV w h => passedL_calls   w (h.ents (2, .pf AsksAt (· = 0)) (fnd_mem (by kernel_rfl))).1 ) ?_
  refine WPO_all tt_ok (by kernel_rfl) ?_
  refine WP_ret ?_
  exact ⟨.s (.bool (((freesL (ownFairwayF b) b) && (keptFairwayF (ownFairwayF b) b)) && passedL)), by kernel_rfl, fun nV w' h => ⟨by rw [show FairwayFreesL b = (((freesL (ownFairwayF b) b) && (keptFairwayF (ownFairwayF b) b)) && passedL) from rfl]; rfl, h.bel⟩⟩
end Go.Proofs.YtamimgmoomcipaaDoor.Lw
namespace Go.Proofs.YtamimgmoomcipaaDoor.Lw
open Go Go.Proofs.YtamimgmoomcipaaDoor.Eng Go.Proofs.YtamimgmoomcipaaDoor.Fw Go.Proofs.YtamimgmoomcipaaDoor.Rf
set_option linter.unusedVariables false
set_option linter.unusedSimpArgs false
theorem passed_true : passedL = true := by kernel_rfl
theorem keptShips_self (l : List Ship) : keptShipsF l l = true := by
  unfold keptShipsF
  rw [loopR_all (fun _ => true) (fun k v hk => by simp only [keptShipsF_c1]; rw [decide_eq_true (by omega)]; simp) (fun k hk => by simp only [keptShipsF_b1]; rw [beq_self_eq_true])]
  simp
theorem keptSights_self (l : List Sight) : keptSightsF l l = true := by
  unfold keptSightsF
  rw [loopR_all (fun _ => true) (fun k v hk => by simp only [keptSightsF_c1]; rw [decide_eq_true (by omega)]; simp) (fun k hk => by simp only [keptSightsF_b1]; rw [beq_self_eq_true])]
  simp
theorem keptFairway_self (b : Book) : keptFairwayF b b = true := by
  unfold keptFairwayF
  rw [keptShips_self, keptSights_self]
  simp
theorem alike_self (l : List Int) : alikeF l l = true := by
  unfold alikeF
  rw [show ((l.length : Int) != (l.length : Int)) = false by simp]
  rw [loopR_find (fun _ => false) (fun _ => false) (fun k hk => by simp only [alikeF_c1]; rw [decide_eq_true]; omega) (fun k hk => by simp only [alikeF_b1]; simp)]
  have : (List.range l.length).find? (fun _ => false) = none := List.find?_eq_none.2 fun x _ h => by cases h
  rw [this]; rfl
end Go.Proofs.YtamimgmoomcipaaDoor.Lw
namespace Go.Proofs.YtamimgmoomcipaaDoor.Eng
open Go Go.RowKit Go.ChangeShapes Go.WideShapes
set_option linter.unusedVariables false
set_option linter.unusedSimpArgs false
structure Part where (off : Nat) (ty : TypeId) (n : Nat) (φ : List Value → Prop)
def partsB (P : Program) : List Field → List (Nat × TypeId × Nat) → Bool
  | [], [] => true
  | f :: r, x :: q => Nat.beq f.offset x.1 && (Nat.beq f.type x.2.1 && (Nat.beq (P.cellsOf f.type) x.2.2 && partsB P r q))
  | _, _ => false
def allOpn (P : Program) (w : World) : List Part → Prop
  | [] => True
  | x :: r => Opn P w x.ty x.φ ∧ allOpn P w r
def allPhi (cs : List Value) : List Part → Prop
  | [] => True
  | x :: r => x.φ ((cs.drop x.off).take x.n) ∧ allPhi cs r
section
variable {P : Program} {w : World} {t e : TypeId}
theorem parts_get : ∀ {fs : List Field} {L : List Part}, partsB P fs (L.map fun x => (x.off, x.ty, x.n)) = true → allOpn P w L → ∀ (i : Nat) (f : Field), fs[i]? = some f → ∃ x : Part, L[i]? = some x ∧ f.offset = x.off ∧ f.type = x.ty ∧ P.cellsOf f.type = x.n ∧ Opn P w x.ty x.φ
  | [], _, _, _, i, f, h => by cases h
  | g :: r, [], hb, _, i, f, h => by cases hb
  | g :: r, x :: q, hb, ho, i, f, h => by
    simp only [List.map_cons, partsB, Bool.and_eq_true] at hb
    cases i with
    | zero =>
      cases h
      exact ⟨x, rfl, Nat.eq_of_beq_eq_true hb.1, Nat.eq_of_beq_eq_true hb.2.1, Nat.eq_of_beq_eq_true hb.2.2.1, ho.1⟩
    | succ i => exact parts_get hb.2.2.2 ho.2 i f h
theorem phi_of {cs : List Value} : ∀ {L : List Part}, (∀ (i : Nat) (x : Part), L[i]? = some x → x.φ ((cs.drop x.off).take x.n)) → allPhi cs L
  | [], _ => trivial
  | x :: r, h => ⟨h 0 x rfl, phi_of fun i y hy => h (i + 1) y hy⟩
theorem partsB_len : ∀ {fs : List Field} {L : List (Nat × TypeId × Nat)}, partsB P fs L = true → fs.length = L.length
  | [], [], _ => rfl
  | _ :: r, _ :: q, h => by
    simp only [partsB, Bool.and_eq_true] at h
    simp [partsB_len h.2.2.2]
theorem Opn_parts {fs : Array Field} (L : List Part) (n : Nat) (ht : P.underlying t = some (.struct fs)) (hb : partsB P fs.toList (L.map fun x => (x.off, x.ty, x.n)) = true) (hn : P.cellsOf t = n) (ho : allOpn P w L) :
    Opn P w t (fun cs => cs.length = n ∧ allPhi cs L) := by
  refine (Opn_struct ht (fun i => (L[i]?.map Part.φ).getD (fun _ => True)) fun i f hif => ?_).mono fun cs ⟨h1, h2⟩ => ⟨h1.trans hn, phi_of fun i x hx => ?_⟩
  · obtain ⟨x, hx, _, h2, _, h4⟩ := parts_get hb ho i f (by rw [Array.getElem?_toList]; exact hif)
    rw [hx]
    rw [h2]
    exact h4
  · have hlen := partsB_len hb
    rw [List.length_map] at hlen
    have hi : i < fs.toList.length := by rw [hlen]; exact (List.getElem?_eq_some_iff.1 hx).1
    obtain ⟨y, hy, h3, h4, h5, _⟩ := parts_get hb ho i _ (List.getElem?_eq_getElem hi)
    rw [hx] at hy
    cases hy
    have := h2 i _ (by rw [← Array.getElem?_toList]; exact List.getElem?_eq_getElem hi)
    rw [hx] at this
    simp only [Option.map_some, Option.getD_some] at this
    rwa [h3, h5] at this
theorem agg_of {cs : Array Value} {l : List Value} (h : cs.toList = l) : Value.agg cs = .agg l.toArray := by rw [← h]
end
end Go.Proofs.YtamimgmoomcipaaDoor.Eng
namespace Go.Proofs.YtamimgmoomcipaaDoor.Lw
open Go Go.ChangeShapes Go.WideShapes Go.RowKit Go.Proofs.YtamimgmoomcipaaDoor.Eng Go.Proofs.YtamimgmoomcipaaDoor.Fw Go.Proofs.YtamimgmoomcipaaDoor.Rf
set_option linter.unusedVariables false
set_option linter.unusedSimpArgs false
set_option maxRecDepth 100000
theorem app_eq {a b c d : List Value} (h : a = b) (k : c = d) : a ++ c = b ++ d := by rw [h, k]
theorem opn3 {w : World} : Opn Tryd.prog w 3 (fun cs => ∃ (b : Int), cs = [iv b] ∧ i64B b ∧ True) := (Opn_int Tryd.underlying3).mono fun cs ⟨n, h1, h2⟩ => ⟨n, h1, h2, trivial⟩
theorem opn24 {w : World} : Opn Tryd.prog w 24 (fun cs => ∃ (b : Span), cs = [iv b.lo, iv b.hi] ∧ i64B b.lo ∧ i64B b.hi ∧ True) :=
  (Opn_parts (P := Tryd.prog) (w := w) [⟨0, 3, 1, (fun cs => ∃ (b : Int), cs = [iv b] ∧ i64B b ∧ True)⟩, ⟨1, 3, 1, (fun cs => ∃ (b : Int), cs = [iv b] ∧ i64B b ∧ True)⟩] 2 Tryd.underlying24 (by kernel_rfl) (by kernel_rfl) ⟨opn3, opn3, trivial⟩).mono fun cs h => by
    obtain ⟨hl, ⟨b0, e0, f0_0, _⟩, ⟨b1, e1, f1_0, _⟩, _⟩ := h
    exact ⟨(⟨b0, b1⟩ : Span), (tl 0 1 cs).trans (app_eq e0 ((tl 1 1 cs).trans (app_eq e1 (tlz hl)))), f0_0, f1_0, trivial⟩
theorem opn65 {w : World} : Opn Tryd.prog w 65 (fun cs => ∃ (b : Ship), cs = [iv b.m, iv b.aw.lo, iv b.aw.hi, iv b.sp.lo, iv b.sp.hi] ∧ i64B b.m ∧ i64B b.aw.lo ∧ i64B b.aw.hi ∧ i64B b.sp.lo ∧ i64B b.sp.hi ∧ True) :=
  (Opn_parts (P := Tryd.prog) (w := w) [⟨0, 3, 1, (fun cs => ∃ (b : Int), cs = [iv b] ∧ i64B b ∧ True)⟩, ⟨1, 24, 2, (fun cs => ∃ (b : Span), cs = [iv b.lo, iv b.hi] ∧ i64B b.lo ∧ i64B b.hi ∧ True)⟩, ⟨3, 24, 2, (fun cs => ∃ (b : Span), cs = [iv b.lo, iv b.hi] ∧ i64B b.lo ∧ i64B b.hi ∧ True)⟩] 5 Tryd.underlying65 (by kernel_rfl) (by kernel_rfl) ⟨opn3, opn24, opn24, trivial⟩).mono fun cs h => by
    obtain ⟨hl, ⟨b0, e0, f0_0, _⟩, ⟨b1, e1, f1_0, f1_1, _⟩, ⟨b2, e2, f2_0, f2_1, _⟩, _⟩ := h
    exact ⟨(⟨b0, b1, b2⟩ : Ship), (tl 0 1 cs).trans (app_eq e0 ((tl 1 2 cs).trans (app_eq e1 ((tl 3 2 cs).trans (app_eq e2 (tlz hl)))))), f0_0, f1_0, f1_1, f2_0, f2_1, trivial⟩
theorem opn22 {w : World} : Opn Tryd.prog w 22 (fun cs => ∃ (g0 : Value) (b : List Ship), cs = [g0] ∧ (Reads w g0 5 b encShip zShip ∧ (∀ a ∈ b, i64B a.m ∧ i64B a.aw.lo ∧ i64B a.aw.hi ∧ i64B a.sp.lo ∧ i64B a.sp.hi) ∧ b.length * 40 ≤ reachBytes) ∧ True) := (Opn_slice (encA := encShip) (z := zShip) (ok := (fun a : Ship => i64B a.m ∧ i64B a.aw.lo ∧ i64B a.aw.hi ∧ i64B a.sp.lo ∧ i64B a.sp.hi)) (sz := 5) Tryd.underlying22 (by kernel_rfl) (opn65.mono fun cs ⟨a, h1, k0, k1, k2, k3, k4, _⟩ => ⟨a, h1, ⟨k0, k1, k2, k3, k4⟩⟩)).mono fun cs ⟨v, l, h1, h2, h3, h4⟩ => ⟨v, l, h1, ⟨h2, h3, h4⟩, trivial⟩
theorem opn70 {w : World} : Opn Tryd.prog w 70 (fun cs => ∃ (b : Sight), cs = [iv b.ship, iv b.m, iv b.aw.lo, iv b.aw.hi] ∧ i64B b.ship ∧ i64B b.m ∧ i64B b.aw.lo ∧ i64B b.aw.hi ∧ True) :=
  (Opn_parts (P := Tryd.prog) (w := w) [⟨0, 3, 1, (fun cs => ∃ (b : Int), cs = [iv b] ∧ i64B b ∧ True)⟩, ⟨1, 3, 1, (fun cs => ∃ (b : Int), cs = [iv b] ∧ i64B b ∧ True)⟩, ⟨2, 24, 2, (fun cs => ∃ (b : Span), cs = [iv b.lo, iv b.hi] ∧ i64B b.lo ∧ i64B b.hi ∧ True)⟩] 4 Tryd.underlying70 (by kernel_rfl) (by kernel_rfl) ⟨opn3, opn3, opn24, trivial⟩).mono fun cs h => by
    obtain ⟨hl, ⟨b0, e0, f0_0, _⟩, ⟨b1, e1, f1_0, _⟩, ⟨b2, e2, f2_0, f2_1, _⟩, _⟩ := h
    exact ⟨(⟨b0, b1, b2⟩ : Sight), (tl 0 1 cs).trans (app_eq e0 ((tl 1 1 cs).trans (app_eq e1 ((tl 2 2 cs).trans (app_eq e2 (tlz hl)))))), f0_0, f1_0, f2_0, f2_1, trivial⟩
theorem opn25 {w : World} : Opn Tryd.prog w 25 (fun cs => ∃ (g0 : Value) (b : List Sight), cs = [g0] ∧ (Reads w g0 4 b encSight zSight ∧ (∀ a ∈ b, i64B a.ship ∧ i64B a.m ∧ i64B a.aw.lo ∧ i64B a.aw.hi) ∧ b.length * 32 ≤ reachBytes) ∧ True) := (Opn_slice (encA := encSight) (z := zSight) (ok := (fun a : Sight => i64B a.ship ∧ i64B a.m ∧ i64B a.aw.lo ∧ i64B a.aw.hi)) (sz := 4) Tryd.underlying25 (by kernel_rfl) (opn70.mono fun cs ⟨a, h1, k0, k1, k2, k3, _⟩ => ⟨a, h1, ⟨k0, k1, k2, k3⟩⟩)).mono fun cs ⟨v, l, h1, h2, h3, h4⟩ => ⟨v, l, h1, ⟨h2, h3, h4⟩, trivial⟩
theorem opn27 {w : World} : Opn Tryd.prog w 27 (fun cs => ∃ (g0 g1 : Value) (b : Book), cs = [g0, iv b.hear.lo, iv b.hear.hi, iv b.br, iv b.cr, iv b.sl, g1] ∧ (Reads w g0 5 b.ships encShip zShip ∧ (∀ a ∈ b.ships, i64B a.m ∧ i64B a.aw.lo ∧ i64B a.aw.hi ∧ i64B a.sp.lo ∧ i64B a.sp.hi) ∧ b.ships.length * 40 ≤ reachBytes) ∧ (Reads w g1 4 b.sights encSight zSight ∧ (∀ a ∈ b.sights, i64B a.ship ∧ i64B a.m ∧ i64B a.aw.lo ∧ i64B a.aw.hi) ∧ b.sights.length * 32 ≤ reachBytes) ∧ i64B b.hear.lo ∧ i64B b.hear.hi ∧ i64B b.br ∧ i64B b.cr ∧ i64B b.sl ∧ True) :=
  (Opn_parts (P := Tryd.prog) (w := w) [⟨0, 22, 1, (fun cs => ∃ (g0 : Value) (b : List Ship), cs = [g0] ∧ (Reads w g0 5 b encShip zShip ∧ (∀ a ∈ b, i64B a.m ∧ i64B a.aw.lo ∧ i64B a.aw.hi ∧ i64B a.sp.lo ∧ i64B a.sp.hi) ∧ b.length * 40 ≤ reachBytes) ∧ True)⟩, ⟨1, 24, 2, (fun cs => ∃ (b : Span), cs = [iv b.lo, iv b.hi] ∧ i64B b.lo ∧ i64B b.hi ∧ True)⟩, ⟨3, 3, 1, (fun cs => ∃ (b : Int), cs = [iv b] ∧ i64B b ∧ True)⟩, ⟨4, 3, 1, (fun cs => ∃ (b : Int), cs = [iv b] ∧ i64B b ∧ True)⟩, ⟨5, 3, 1, (fun cs => ∃ (b : Int), cs = [iv b] ∧ i64B b ∧ True)⟩, ⟨6, 25, 1, (fun cs => ∃ (g0 : Value) (b : List Sight), cs = [g0] ∧ (Reads w g0 4 b encSight zSight ∧ (∀ a ∈ b, i64B a.ship ∧ i64B a.m ∧ i64B a.aw.lo ∧ i64B a.aw.hi) ∧ b.length * 32 ≤ reachBytes) ∧ True)⟩] 7 Tryd.underlying27 (by kernel_rfl) (by kernel_rfl) ⟨opn22, opn24, opn3, opn3, opn3, opn25, trivial⟩).mono fun cs h => by
    obtain ⟨hl, ⟨p0_0, b0, e0, f0_0, _⟩, ⟨b1, e1, f1_0, f1_1, _⟩, ⟨b2, e2, f2_0, _⟩, ⟨b3, e3, f3_0, _⟩, ⟨b4, e4, f4_0, _⟩, ⟨p5_0, b5, e5, f5_0, _⟩, _⟩ := h
    exact ⟨p0_0, p5_0, (⟨b0, b1, b2, b3, b4, b5⟩ : Book), (tl 0 1 cs).trans (app_eq e0 ((tl 1 2 cs).trans (app_eq e1 ((tl 3 1 cs).trans (app_eq e2 ((tl 4 1 cs).trans (app_eq e3 ((tl 5 1 cs).trans (app_eq e4 ((tl 6 1 cs).trans (app_eq e5 (tlz hl)))))))))))), f0_0, f5_0, f1_0, f1_1, f2_0, f3_0, f4_0, trivial⟩
theorem own : ownKnob Tryd.prog.godebug = none := by kernel_rfl
theorem laidOut : laidOutB Tryd.prog = true := by kernel_rfl
theorem gAsks : Tryd.prog.globalNamed "prow/fairway.asks" = some 0 := by kernel_rfl
theorem tAsks : (Tryd.prog.globals[0]?).map (·.type) = some 139 := by kernel_rfl
theorem asks_of {W : World} (hS : W.ShapedOpen Tryd.prog) (h : laidMetH Tryd.prog [("prow/fairway.asks", Rows.laid_prow_fairway_asks)] W) : AsksAt W := by
  obtain ⟨g, t, cs, fuel, p, hg, ht, hv, hd⟩ := h.funcs (List.mem_singleton.2 rfl)
  obtain rfl := Option.some.inj (gAsks.symm.trans hg)
  obtain rfl := Option.some.inj (tAsks.symm.trans ht)
  obtain ⟨c, hc, hsz, _⟩ := hS.1 0 #[.nilFunc, .nilFunc] 139 (Nat.le_of_ble_eq_true (by kernel_rfl)) (by kernel_rfl)
  have hcs : ∀ i : Nat, W.cell? ⟨0, i, none⟩ = cs[i]? := fun i => World.var?_cell hg hv i
  have hcc : ∀ i : Nat, W.cell? ⟨0, i, none⟩ = c[i]? := fun i => cell_of_row W 0 _ _ _ _ hc
  have hd' : DataW.trod (funcToken Tryd.prog) Tryd.prog W 0 (fun _ => true) true fuel 139 cs.toList = some (.agg [.held [40, 112, 114, 111, 119, 47, 102, 97, 105, 114, 119, 97, 121, 46, 98, 111, 111, 107, 41, 46, 115, 111, 109, 101], .held [40, 112, 114, 111, 119, 47, 102, 97, 105, 114, 119, 97, 121, 46, 98, 111, 111, 107, 41, 46, 101, 97, 99, 104]], p) := hd
  cases fuel with
  | zero => cases hd'
  | succ n =>
    simp only [DataW.trod, Tryd.underlying139] at hd'
    split at hd'
    · rename_i hl
      obtain ⟨xs, hxs, he⟩ := Option.map_eq_some_iff.1 hd'
      have hl2 : cs.toList.length = 2 := hl.trans (by kernel_rfl)
      have hk : Tryd.prog.cellsOf 138 = 1 := by kernel_rfl
      simp only [Prod.mk.injEq, DataW.agg.injEq] at he
      obtain ⟨y0, hy0, hx0⟩ := mapM_get hxs 0 0 rfl
      obtain ⟨y1, hy1, hx1⟩ := mapM_get hxs 1 1 rfl
      have h0 : y0.1 = .held [40, 112, 114, 111, 119, 47, 102, 97, 105, 114, 119, 97, 121, 46, 98, 111, 111, 107, 41, 46, 115, 111, 109, 101] := by
        have := congrArg (fun l => l[0]?) he.1
        simp only [List.getElem?_map, hx0, Option.map_some] at this
        exact Option.some.inj this
      have h1 : y1.1 = .held [40, 112, 114, 111, 119, 47, 102, 97, 105, 114, 119, 97, 121, 46, 98, 111, 111, 107, 41, 46, 101, 97, 99, 104] := by
        have := congrArg (fun l => l[1]?) he.1
        simp only [List.getElem?_map, hx1, Option.map_some] at this
        exact Option.some.inj this
      rw [hk] at hy0 hy1
      match hcl : cs.toList, hl2 with
      | [u0, u1], _ =>
        rw [hcl] at hy0 hy1
        have hu0 : DataW.trod (funcToken Tryd.prog) Tryd.prog W 0 (fun _ => true) true n 138 [u0] = some (.held [40, 112, 114, 111, 119, 47, 102, 97, 105, 114, 119, 97, 121, 46, 98, 111, 111, 107, 41, 46, 115, 111, 109, 101], y0.2) := by rw [← h0]; exact hy0
        have hu1 : DataW.trod (funcToken Tryd.prog) Tryd.prog W 0 (fun _ => true) true n 138 [u1] = some (.held [40, 112, 114, 111, 119, 47, 102, 97, 105, 114, 119, 97, 121, 46, 98, 111, 111, 107, 41, 46, 101, 97, 99, 104], y1.2) := by rw [← h1]; exact hy1
        obtain rfl := Go.func_of_trod (f0 := 81) Tryd.underlying138 (by kernel_rfl) hu0
        obtain rfl := Go.func_of_trod (f0 := 139) Tryd.underlying138 (by kernel_rfl) hu1
        unfold AsksAt
        rw [hc]
        have e0 := hcc 0
        have e1 := hcc 1
        rw [hcs 0, ← Array.getElem?_toList, hcl] at e0
        rw [hcs 1, ← Array.getElem?_toList, hcl] at e1
        have : c = #[.func (.func 81) #[] #[], .func (.func 139) #[] #[]] := by
          have hs2 : c.size = 2 := hsz
          apply Array.ext
          · rw [hs2]; rfl
          · intro i h1 h2
            rw [hs2] at h1
            have : i = 0 ∨ i = 1 := by omega
            rcases this with rfl | rfl
            · have := e0.symm; rw [Array.getElem?_eq_getElem (by omega)] at this; exact Option.some.inj this
            · have := e1.symm; rw [Array.getElem?_eq_getElem (by omega)] at this; exact Option.some.inj this
        rw [this]
    · cases hd'
end Go.Proofs.YtamimgmoomcipaaDoor.Lw
namespace Go.Proofs.YtamimgmoomcipaaDoor.Lw
open Go Go.Proofs.YtamimgmoomcipaaDoor.Eng Go.Proofs.YtamimgmoomcipaaDoor.Fw Go.Proofs.YtamimgmoomcipaaDoor.Rf
set_option linter.unusedVariables false
set_option linter.unusedSimpArgs false
def extL (n : Nat) : Nat → List Int → List (List Int)
  | 0, s => [s]
  | r + 1, s => (List.range' (frmW s) (n - frmW s)).flatMap fun q : Nat => extL n r (s ++ [(q : Int)])
theorem find_flat {α β : Type} (f : α → List β) (p : β → Bool) (l : List α) : (l.flatMap f).find? p = match l.find? (fun x => (f x).any p) with | some x => (f x).find? p | none => none := by
  induction l with
  | nil => rfl
  | cons x r ih =>
    rw [List.flatMap_cons, List.find?_append, List.find?_cons, ih]
    cases h : (f x).find? p with
    | none =>
      have : (f x).any p = false := by rw [List.any_eq_false]; intro y hy; exact List.find?_eq_none.1 h y hy
      rw [this]; rfl
    | some y =>
      have : (f x).any p = true := List.any_eq_true.2 ⟨y, List.mem_of_find?_eq_some h, List.find?_some h⟩
      rw [this]; simp [h]
theorem choose_ext (b : Book) : ∀ (r : Nat) (s : List Int), (chooseW b r s).2 = ((extL b.sights.length r s).find? (fun l => isTrueF b l)).isSome ∧ ∀ l, (extL b.sights.length r s).find? (fun l => isTrueF b l) = some l → (chooseW b r s).1 = l := by
  intro r
  induction r with
  | zero =>
    intro s
    simp only [chooseW, extL, List.find?_cons, List.find?_nil]
    cases isTrueF b s
    · exact ⟨rfl, fun l h => by cases h⟩
    · exact ⟨rfl, fun l h => by cases h; rfl⟩
  | succ r ih =>
    intro s
    simp only [chooseW, extL]
    rw [find_flat]
    have hq : (fun q : Nat => (chooseW b r (s ++ [(q : Int)])).2) = (fun q : Nat => (extL b.sights.length r (s ++ [(q : Int)])).any fun l => isTrueF b l) := by
      funext q
      rw [(ih _).1]
      cases h : (extL b.sights.length r (s ++ [(q : Int)])).find? (fun l => isTrueF b l) with
      | none =>
        rw [show ((extL b.sights.length r (s ++ [(q : Int)])).any fun l => isTrueF b l) = false by rw [List.any_eq_false]; intro y hy; exact List.find?_eq_none.1 h y hy]; rfl
      | some y =>
        rw [show ((extL b.sights.length r (s ++ [(q : Int)])).any fun l => isTrueF b l) = true from List.any_eq_true.2 ⟨y, List.mem_of_find?_eq_some h, List.find?_some (p := fun l => isTrueF b l) h⟩]; rfl
    rw [hq]
    cases h : (List.range' (frmW s) (b.sights.length - frmW s)).find? (fun q : Nat => (extL b.sights.length r (s ++ [(q : Int)])).any fun l => isTrueF b l) with
    | none => exact ⟨rfl, fun l h => by cases h⟩
    | some q =>
      have h1 := List.find?_some (p := fun q : Nat => (extL b.sights.length r (s ++ [(q : Int)])).any fun l => isTrueF b l) h
      obtain ⟨y, hy, hg⟩ := List.any_eq_true.1 h1
      have h2 := ih (s ++ [(q : Int)])
      cases h3 : (extL b.sights.length r (s ++ [(q : Int)])).find? (fun l => isTrueF b l) with
      | none => exact absurd hg (List.find?_eq_none.1 h3 y hy)
      | some l =>
        simp only [h3]
        exact ⟨rfl, fun l' hl' => by cases hl'; exact h2.2 l h3⟩
def setsL (n : Nat) : List (List Int) := (List.range (n + 1)).flatMap fun r => extL n r []
theorem wrongA_eq (b : Book) : wrongA b = if checkW b = 0 then (match (setsL b.sights.length).find? (fun l => isTrueF b l) with | some l => (l, (0 : Int)) | none => ([], 42)) else ([], 40) := by
  unfold wrongA
  rcases check_two b with h | h
  · rw [if_pos h, if_pos h]
    unfold wrongQ setsL
    rw [find_flat]
    have hq : (fun q : Nat => (chooseW b q []).2) = (fun q : Nat => (extL b.sights.length q []).any fun l => isTrueF b l) := by
      funext q
      rw [(choose_ext b q []).1]
      cases h : (extL b.sights.length q []).find? (fun l => isTrueF b l) with
      | none =>
        rw [show ((extL b.sights.length q []).any fun l => isTrueF b l) = false by rw [List.any_eq_false]; intro y hy; exact List.find?_eq_none.1 h y hy]; rfl
      | some y =>
        rw [show ((extL b.sights.length q []).any fun l => isTrueF b l) = true from List.any_eq_true.2 ⟨y, List.mem_of_find?_eq_some h, List.find?_some (p := fun l => isTrueF b l) h⟩]; rfl
    rw [hq]
    cases h : (List.range (b.sights.length + 1)).find? (fun q : Nat => (extL b.sights.length q []).any fun l => isTrueF b l) with
    | none => rfl
    | some q =>
      have h1 := List.find?_some (p := fun q : Nat => (extL b.sights.length q []).any fun l => isTrueF b l) h
      obtain ⟨y, hy, hg⟩ := List.any_eq_true.1 h1
      simp only
      cases h3 : (extL b.sights.length q []).find? (fun l => isTrueF b l) with
      | none => exact absurd hg (List.find?_eq_none.1 h3 y hy)
      | some l => simp only [(choose_ext b q []).2 l h3]
  · rw [if_neg (by omega), if_neg (by omega), h]
theorem membersF_eq (set : Int) (n : Nat) (hn : n ≤ 64) : membersF set n = ((List.range n).filter fun i : Nat => memberF set i).map fun i : Nat => (i : Int) := by
  unfold membersF
  rw [loopR_app (fun i : Nat => bif memberF set (i : Int) then [(i : Int)] else []) (fun k v hk => by simp only [membersF_c1]; rw [decide_eq_true]; omega) (fun k v hk => by simp only [membersF_b1]; cases memberF set (k : Int) <;> simp)]
  simp only [List.nil_append, Int.toNat_natCast]
  exact filter_app _ _ _
theorem mem_members {set : Int} {n : Nat} (hn : n ≤ 64) {j : Nat} (hj : j < n) : (j : Int) ∈ membersF set n ↔ memberF set j = true := by
  rw [membersF_eq set n hn]
  simp only [List.mem_map, List.mem_filter, List.mem_range]
  constructor
  · rintro ⟨i, ⟨_, h⟩, he⟩
    obtain rfl : i = j := by omega
    exact h
  · exact fun h => ⟨j, ⟨hj, h⟩, rfl⟩
def posL (L : List (List Int)) (x : List Int) : Nat := L.idxOf x
def setsOk (n : Nat) : Bool := ((List.range (2 ^ n)).all fun k => (setsL n).contains (membersF (k : Int) n)) && ((setsL n).all fun l => (List.range (2 ^ n)).any fun k => membersF (k : Int) n == l) && ((setsL n).all fun x => (setsL n).all fun y => betterF x y == decide (posL (setsL n) x < posL (setsL n) y))
theorem setsOk_all {n : Nat} (h : n ≤ 5) : setsOk n = true := by
  have : n = 0 ∨ n = 1 ∨ n = 2 ∨ n = 3 ∨ n = 4 ∨ n = 5 := by omega
  rcases this with rfl | rfl | rfl | rfl | rfl | rfl
  · exact (by kernel_rfl : setsOk 0 = true)
  · exact (by kernel_rfl : setsOk 1 = true)
  · exact (by kernel_rfl : setsOk 2 = true)
  · exact (by kernel_rfl : setsOk 3 = true)
  · exact (by kernel_rfl : setsOk 4 = true)
  · exact (by kernel_rfl : setsOk 5 = true)
theorem sets_mem {n : Nat} (h : n ≤ 5) {k : Nat} (hk : k < 2 ^ n) : membersF (k : Int) n ∈ setsL n := by
  have h1 := setsOk_all h
  simp only [setsOk, Bool.and_eq_true] at h1
  have := List.all_eq_true.1 h1.1.1 k (List.mem_range.2 hk)
  exact List.contains_iff_mem.1 this
theorem sets_num {n : Nat} (h : n ≤ 5) {l : List Int} (hl : l ∈ setsL n) : ∃ k, k < 2 ^ n ∧ membersF ((k : Nat) : Int) n = l := by
  have h1 := setsOk_all h
  simp only [setsOk, Bool.and_eq_true] at h1
  obtain ⟨k, hk, he⟩ := List.any_eq_true.1 (List.all_eq_true.1 h1.1.2 l hl)
  exact ⟨k, List.mem_range.1 hk, eq_of_beq he⟩
theorem better_pos {n : Nat} (h : n ≤ 5) {x y : List Int} (hx : x ∈ setsL n) (hy : y ∈ setsL n) : betterF x y = decide (posL (setsL n) x < posL (setsL n) y) := by
  have h1 := setsOk_all h
  simp only [setsOk, Bool.and_eq_true] at h1
  exact eq_of_beq (List.all_eq_true.1 (List.all_eq_true.1 h1.2 x hx) y hy)
theorem pos_inj {L : List (List Int)} {x y : List Int} (hx : x ∈ L) (hy : y ∈ L) (h : posL L x = posL L y) : x = y := by
  have h1 := List.idxOf_lt_length_of_mem hx
  have h2 := List.idxOf_lt_length_of_mem hy
  have e1 := List.getElem_idxOf h1
  have e2 := List.getElem_idxOf h2
  have h' : List.idxOf x L = List.idxOf y L := h
  rw [← e1, ← e2]
  congr 1
theorem find_pos {L : List (List Int)} {p : List Int → Bool} {l : List Int} (h : L.find? p = some l) {m : List Int} (hm : m ∈ L) (hp : p m = true) : posL L l ≤ posL L m := by
  induction L with
  | nil => cases hm
  | cons x r ih =>
    unfold posL
    rw [List.find?_cons] at h
    cases hx : p x
    · rw [hx] at h
      have hmx : m ≠ x := fun e => by rw [e, hx] at hp; cases hp
      have hlx : l ≠ x := fun e => by have := List.find?_some h; rw [e, hx] at this; cases this
      rw [List.idxOf_cons, List.idxOf_cons, beq_false_of_ne (Ne.symm hlx), beq_false_of_ne (Ne.symm hmx)]
      simp only [cond_false]
      have := ih h ((List.mem_cons.1 hm).resolve_left hmx)
      unfold posL at this
      omega
    · rw [hx] at h
      cases h
      rw [List.idxOf_cons_self]
      exact Nat.zero_le _
def okS (b : Book) (k : Nat) (a s : Int) (x : Sight) : Bool := !(x.ship == (k : Int) && !withinF (awayF b k a s x.m) x.aw.lo x.aw.hi)
theorem right_wo {b : Book} (hg : b.sights.length ≤ 64) (set : Int) (k : Nat) (a s : Int) : rightF (withoutR b set) k a s [] = rightF b k a s (membersF set b.sights.length) := by
  have hsh : (withoutR b set).ships = b.ships := by rw [withoutR_eq]
  have haw : ∀ m, awayF (withoutR b set) k a s m = awayF b k a s m := fun m => by unfold awayF; rw [hsh]
  have h1 : rightF (withoutR b set) k a s [] = (withoutR b set).sights.all (okS b k a s) := by
    rw [← all_range _ zSight (okS b k a s)]
    unfold rightF
    congr 1
    funext j
    unfold sightF okS
    rw [haw]
    simp only [List.not_mem_nil, decide_false, Bool.not_false, Bool.and_true]
  rw [h1, withoutR_eq]
  simp only
  rw [Bool.eq_iff_iff]
  unfold rightF
  simp only [List.all_eq_true, List.mem_flatMap, List.mem_range]
  constructor
  · intro h j hj
    unfold sightF
    cases hm : memberF set j
    · have := h (b.sights.getD j zSight) ⟨j, hj, by rw [hm]; simp⟩
      unfold okS at this
      have hnm : ¬ (j : Int) ∈ membersF set b.sights.length := fun h' => by rw [(mem_members hg hj).1 h'] at hm; cases hm
      rw [decide_eq_false hnm]
      simpa using this
    · rw [decide_eq_true ((mem_members hg hj).2 hm)]; simp
  · rintro h x ⟨j, hj, hx⟩
    cases hm : memberF set j
    · rw [hm] at hx
      simp only [Bool.not_false, cond_true, List.mem_singleton] at hx
      subst hx
      have := h j hj
      unfold sightF at this
      have hnm : ¬ (j : Int) ∈ membersF set b.sights.length := fun h' => by rw [(mem_members hg hj).1 h'] at hm; cases hm
      rw [decide_eq_false hnm] at this
      unfold okS
      simpa using this
    · rw [hm] at hx; simp at hx
theorem wo_valid {b : Book} (hv : Valid b) (set : Int) : Valid (withoutR b set) := by
  have := valid_wo (set := set) (c := true) hv rfl
  have hsh : (withoutR b set).ships = b.ships := by rw [withoutR_eq]
  simp only [cond_true] at this
  rw [← hsh] at this
  exact this
theorem wo_true {b : Book} (hv : Valid b) (set : Int) : isTrueF (withoutR b set) [] = isTrueF b (membersF set b.sights.length) := by
  have hg : b.sights.length ≤ 64 := Nat.le_trans hv.nsights (by decide)
  have hv2 := wo_valid hv set
  have hsh : (withoutR b set).ships = b.ships := by rw [withoutR_eq]
  have hhe : (withoutR b set).hear = b.hear := by rw [withoutR_eq]
  have key : ∀ k, k < b.ships.length → ∀ c, c ∈ coursesF (withoutR b set) k [] ↔ c ∈ coursesF b k (membersF set b.sights.length) := fun k hk c => by
    rw [mem_coursesF hv2 (by rw [hsh]; exact hk), mem_coursesF hv hk, right_wo hg, hsh, hhe]
  unfold isTrueF
  rw [hsh, Bool.eq_iff_iff]
  simp only [List.all_eq_true, List.mem_range, decide_eq_true_eq]
  constructor
  · intro h k hk hn
    obtain ⟨c, hc⟩ := List.exists_mem_of_ne_nil _ (h k hk)
    have := (key k hk c).1 hc
    rw [hn] at this; cases this
  · intro h k hk hn
    obtain ⟨c, hc⟩ := List.exists_mem_of_ne_nil _ (h k hk)
    have := (key k hk c).2 hc
    rw [hn] at this; cases this
theorem wo_hears {b : Book} (hv : Valid b) (set : Int) : decide (((hearsR (withoutR b set)).length : Int) > 0) = isTrueF b (membersF set b.sights.length) := by
  rw [← wo_true hv, Bool.eq_iff_iff, decide_eq_true_eq, ← hears_true (wo_valid hv set)]
  omega
def bestS (b : Book) (v : Bool × List Int) (k : Nat) : Bool × List Int := bif (!v.1 || betterF (membersF (k : Int) b.sights.length) v.2) && isTrueF b (membersF (k : Int) b.sights.length) then (true, membersF (k : Int) b.sights.length) else v
theorem best_inv {b : Book} (hv : Valid b) (n : Nat) (hn : n ≤ 2 ^ b.sights.length) : let v := (List.range n).foldl (bestS b) (false, [])
    (v.1 = false ∧ ∀ k, k < n → isTrueF b (membersF (k : Int) b.sights.length) = false) ∨ (v.1 = true ∧ v.2 ∈ setsL b.sights.length ∧ isTrueF b v.2 = true ∧ ∀ k, k < n → isTrueF b (membersF (k : Int) b.sights.length) = true → posL (setsL b.sights.length) v.2 ≤ posL (setsL b.sights.length) (membersF (k : Int) b.sights.length)) := by
  have hg := hv.nsights
  induction n with
  | zero => left; exact ⟨rfl, fun k hk => by omega⟩
  | succ n ih =>
    rw [List.range_succ, List.foldl_append]
    simp only [List.foldl_cons, List.foldl_nil]
    have hmem := sets_mem hg (show n < 2 ^ b.sights.length by omega)
    have ih := ih (by omega)
    simp only at ih
    generalize (List.range n).foldl (bestS b) (false, []) = v at ih ⊢
    obtain ⟨v1, v2⟩ := v
    unfold bestS
    simp only at ih ⊢
    rcases ih with ⟨rfl, h2⟩ | ⟨rfl, h2, h3, h4⟩
    · cases hgd : isTrueF b (membersF (n : Int) b.sights.length)
      · left
        simp only [Bool.and_false, cond_false]
        refine ⟨trivial, fun k hk => ?_⟩
        by_cases e : k = n
        · subst e; exact hgd
        · exact h2 k (by omega)
      · right
        simp only [Bool.not_false, Bool.true_or, Bool.and_true, cond_true]
        refine ⟨trivial, hmem, hgd, fun k hk hk2 => ?_⟩
        by_cases e : k = n
        · subst e; exact Nat.le_refl _
        · rw [h2 k (by omega)] at hk2; cases hk2
    · right
      simp only [Bool.not_true, Bool.false_or]
      rw [better_pos hg hmem h2]
      cases hgd : isTrueF b (membersF (n : Int) b.sights.length)
      · simp only [Bool.and_false, cond_false]
        refine ⟨trivial, h2, h3, fun k hk hk2 => ?_⟩
        by_cases e : k = n
        · subst e; rw [hgd] at hk2; cases hk2
        · exact h4 k (by omega) hk2
      · simp only [Bool.and_true]
        by_cases hlt : posL (setsL b.sights.length) (membersF (n : Int) b.sights.length) < posL (setsL b.sights.length) v2
        · rw [decide_eq_true hlt]
          simp only [cond_true]
          refine ⟨trivial, hmem, hgd, fun k hk hk2 => ?_⟩
          by_cases e : k = n
          · subst e; exact Nat.le_refl _
          · have := h4 k (by omega) hk2; omega
        · rw [decide_eq_false hlt]
          simp only [cond_false]
          refine ⟨trivial, h2, h3, fun k hk hk2 => ?_⟩
          by_cases e : k = n
          · subst e; omega
          · exact h4 k (by omega) hk2
theorem wrongR_A {b : Book} (h1 : (b.ships.length : Int) ≤ 9223372036854775807) : wrongR b = wrongA b := by
  rw [wrongA_eq]
  unfold wrongR
  rw [shape_if2, checkR_eq h1]
  by_cases hc : checkW b = 0
  · rw [if_pos hc, if_pos hc]
    have hv := check_valid.1 hc
    have hg := hv.nsights
    have hsh : ∀ set, (withoutR b set).ships = b.ships := fun set => by rw [withoutR_eq]
    rw [loopR_foldl (fun k v => bestS b v k) (fun k v hk => by
      obtain ⟨v1, v2⟩ := v
      simp only [wrongR_c1]
      rw [pow_small hg, decide_eq_true]
      have : ((k : Nat) : Int) < ((2 ^ b.sights.length : Nat) : Int) := Int.ofNat_lt.2 hk
      exact this) (fun k v hk => by
      obtain ⟨v1, v2⟩ := v
      simp only [wrongR_b1, bestS]
      cases hcd : (!v1 || betterF (membersF (k : Int) (b.sights.length : Int)) v2)
      · simp
      · simp only [Bool.true_and, beq_self_eq_true, cond_true]
        have he : (⟨b.ships, (withoutR b k).hear, (withoutR b k).br, (withoutR b k).cr, (withoutR b k).sl, (withoutR b k).sights⟩ : Book) = withoutR b k := by rw [← hsh k]
        rw [he, wo_hears hv]
        cases isTrueF b (membersF (k : Int) b.sights.length) <;> rfl)]
    simp only
    have hinv := best_inv hv (2 ^ b.sights.length) (Nat.le_refl _)
    simp only at hinv
    generalize (List.range (2 ^ b.sights.length)).foldl (bestS b) (false, []) = v at hinv
    obtain ⟨v1, v2⟩ := v
    simp only at hinv ⊢
    rcases hinv with ⟨rfl, h2⟩ | ⟨rfl, h2, h3, h4⟩
    · have : (setsL b.sights.length).find? (fun l => isTrueF b l) = none := List.find?_eq_none.2 fun l hl => by
        obtain ⟨k, hk, rfl⟩ := sets_num hg hl
        rw [h2 k hk]; decide
      rw [this]; rfl
    · cases hf : (setsL b.sights.length).find? (fun l => isTrueF b l) with
      | none => exact absurd h3 (List.find?_eq_none.1 hf v2 h2)
      | some l =>
        have hl := List.mem_of_find?_eq_some hf
        have hlg := List.find?_some (p := fun l => isTrueF b l) hf
        obtain ⟨k, hk, rfl⟩ := sets_num hg hl
        have h5 := find_pos hf h2 h3
        have h6 := h4 k hk hlg
        rw [pos_inj h2 hl (by omega)]; rfl
  · rw [if_neg hc, if_neg hc]
    rcases check_two b with h | h
    · exact absurd h hc
    · rw [h]
end Go.Proofs.YtamimgmoomcipaaDoor.Lw
namespace Go.Proofs.YtamimgmoomcipaaDoor.Lw
open Go Go.Proofs.YtamimgmoomcipaaDoor.Eng Go.Proofs.YtamimgmoomcipaaDoor.Fw Go.Proofs.YtamimgmoomcipaaDoor.Rf
set_option linter.unusedVariables false
set_option linter.unusedSimpArgs false
theorem FairwayFrees_true (b : Book) (h1 : (b.ships.length : Int) ≤ 9223372036854775807) : FairwayFreesL b = true := by
  unfold FairwayFreesL ownFairwayF
  rw [keptFairway_self, passed_true]
  unfold freesL
  rw [freeR_A h1, wrongR_A h1, alike_self, alike_self]
  simp
end Go.Proofs.YtamimgmoomcipaaDoor.Lw
namespace Go.Proofs.YtamimgmoomcipaaDoor.Lw
open Go Go.ChangeShapes Go.WideShapes Go.RowKit Go.Proofs.YtamimgmoomcipaaDoor.Eng Go.Proofs.YtamimgmoomcipaaDoor.Fw Go.Proofs.YtamimgmoomcipaaDoor.Rf
set_option linter.unusedVariables false
set_option linter.unusedSimpArgs false
set_option maxRecDepth 100000
namespace FairwayFrees
theorem door_met_fairwayFrees (os : Os) (args : Array Value) : laidMetH Tryd.prog Rows.fairwayFreesRow.laid ((World.doorLaid Tryd.prog 14 os).forCall (fun _ _ => 0) ⟨#[], args, []⟩).memory :=
  laidMetH_of_parts3 (fuel := 8) (laidMet_of_run' 8 (by kernel_rfl) (by kernel_rfl)) (by kernel_rfl) (by kernel_rfl)
theorem contract (H : Type) (enc : TypeId × Value → H) (W : World) (base : Nat) (args : Array Value) (ds gs : List (DataW H)) (before : List MemPlace)
    (hval : ∀ (j : Nat) t v, Tryd.f5.params[j]? = some t → args[j]? = some v → Value.okWide Tryd.prog W .any base t v)
    (hW : DataW.Whole enc Tryd.prog Tryd.f5.params.toList Rows.fairwayFreesSpec.vars false W args.toList ds gs before)
    (hsz0 : (DataW.weightsEach Tryd.prog (Tryd.f5.params.toList ++ []) (ds ++ gs)).all (fun x => decide (x ≤ reachBytes)) = true) (hL : laidMetH Tryd.prog Rows.fairwayFreesRow.laid W) (hS : W.ShapedOpen Tryd.prog) :
    Calls Tryd.prog 5 args W fun e W' => ∃ v, e = .returned v ∧ Rows.fairwayFreesSpec.post enc Tryd.prog Tryd.f5 false true false false W args v W' := by
  have hW' := hW
  obtain ⟨p, q, hA0, hV, rfl, hfz, hnd⟩ := hW
  have hA : DataW.TrodAll enc Tryd.prog W 0 (fun _ => true) true Tryd.f5.params.toList args.toList ds p := hA0
  rw [Tryd.params5] at hA hval hsz0
  clear hA0
  obtain ⟨v0, vs0, d0, ds0, p0, q0, hargs, rfl, rfl, h0, r0⟩ := trodAll_cons hA
  obtain ⟨rfl, rfl, rfl⟩ := trodAll_nil r0
  obtain rfl : args = #[v0] := by apply Array.ext'; rw [hargs]
  obtain ⟨rfl, rfl⟩ := trodVars_none hV
  have hsz : (DataW.weightsEach Tryd.prog [27] [d0]).all (fun x => decide (x ≤ reachBytes)) = true := by simpa using hsz0
  have hb0 : Wb Tryd.prog 27 d0 := Bd_each hsz (j := 0) rfl rfl
  obtain ⟨c0, rfl, ⟨g0_0, g0_1, x0, y0, q0_0, q0_1, q0_2, q0_3, q0_4, q0_5, q0_6, _⟩⟩ := arg_agg Tryd.underlying27 (hval 0 27 v0 rfl rfl) h0 hb0 opn27
  rw [agg_of y0] at *
  have ha := asks_of hS hL
  have hc := FairwayFreesL_calls g0_0 g0_1 x0 W q0_0.1 q0_1.1 ha (Nat.le_trans q0_0.2.2 (by decide)) (Nat.le_trans q0_1.2.2 (by decide))
  refine hc.mono fun e W' ⟨he, hb⟩ => ?_
  refine ⟨.bool true, he.trans (by rw [FairwayFrees_true x0 (Reads.len q0_0.1)]), law_post laidOut (fun u hu => ?_) hW' rfl (by kernel_rfl) Tryd.underlying4 rfl rfl rfl hb⟩
  have hall : ([27] : List TypeId).all (fun u => Tryd.prog.readableRec u && decide (u < Tryd.prog.types.size)) = true := by kernel_rfl
  have hu' : u ∈ ([27] : List TypeId) := hu
  have := List.all_eq_true.1 hall u hu'
  simp only [Bool.and_eq_true, decide_eq_true_eq] at this
  exact this
theorem reads (os : Os) {H : Type} (enc : TypeId × Value → H) : ∃ places, DataW.whole enc Tryd.prog ((World.doorLaid Tryd.prog 14 os).forCall (fun _ _ => 0) ⟨#[], #[.agg #[.slice none 0 0, .int .i64 0, .int .i64 0, .int .i64 0, .int .i64 0, .int .i64 0, .slice none 0 0]], []⟩).memory Tryd.f5.params.toList Rows.fairwayFreesSpec.vars false (#[.agg #[.slice none 0 0, .int .i64 0, .int .i64 0, .int .i64 0, .int .i64 0, .int .i64 0, .slice none 0 0]] : Array Value).toList 8 = some ([.agg [.nil, .agg [.lit (.int .i64 0), .lit (.int .i64 0)], .lit (.int .i64 0), .lit (.int .i64 0), .lit (.int .i64 0), .nil]], [], places) :=
  ⟨[], by kernel_rfl⟩
set_option maxRecDepth 100000 in
theorem lifted (os : Os) (started : os.Started) (H : Type) (enc : TypeId × Value → H) (F : Stop.Interp) :
    ReturnsInHanded {} Tryd.checked os 5 .any ((OpenSpec.ofChange Rows.fairwayFreesSpec).preRow enc Tryd.prog Tryd.f5 Rows.fairwayFreesRow.domain false Rows.fairwayFreesRow.laid) (((OpenSpec.ofChange Rows.fairwayFreesSpec).at F).post enc Tryd.prog Tryd.f5 false true false false) := by
  obtain ⟨places, hx⟩ := reads os enc
  refine returnsInHanded_of_row (C := Tryd.checked) (s := OpenSpec.ofChange Rows.fairwayFreesSpec) own started (by kernel_rfl) Tryd.func5
    (witness_row_atRef (enc := enc) (C := Tryd.checked) false (World.doorLaid Tryd.prog 14 os) #[.agg #[.slice none 0 0, .int .i64 0, .int .i64 0, .int .i64 0, .int .i64 0, .int .i64 0, .slice none 0 0]] rfl (by kernel_rfl) (by kernel_rfl) (by kernel_rfl)
      (OpenSpec.preRow_of_cond 8 hx (by kernel_rfl) (fun k hk => by cases hk) (by kernel_rfl) (door_met_fairwayFrees os _))) ?_
  intro W base args ds gs before hval hW _ hcond hsz hL hS _
  exact contract H enc W base args ds gs before hval hW hsz hL hS
theorem said : Rows.FairwayFreesSaid :=
  OpenClaim.holds_of_cond 5 Tryd.f5 rfl rfl rfl rfl rfl rfl rfl ⟨rfl, rfl, rfl, rfl, rfl⟩ rfl rfl rfl rfl rfl (by kernel_rfl) Tryd.func5 (by kernel_rfl)
    (of_decide_eq_true (by kernel_rfl)) (by unfold Func.isWrapper; first | (rw [if_pos (by decide +kernel)]; kernel_rfl) | (rw [if_neg (by decide +kernel)]; exact ⟨rfl, rfl⟩))
    (fun os started H enc _ F => by rw [OpenClaim.pre_eq_preRow]; exact lifted os started H enc F)
theorem plain (f : FuncId) (fn : Func) (hf : Tryd.pinned.checked.prog.funcNamed "prow/prowlaw04.FairwayFrees" = some f) (hfn : Tryd.pinned.checked.prog.funcs[f]? = some fn) :
    false = Tryd.pinned.checked.prog.looks [] ∧ ∀ (j : Nat) t, fn.params[j]? = some t → Tryd.pinned.checked.prog.wantsStandIn t = false := by
  obtain rfl : f = 5 := Option.some.inj ((show Tryd.prog.funcNamed "prow/prowlaw04.FairwayFrees" = some 5 by kernel_rfl).symm.trans hf) |>.symm
  obtain rfl : fn = Tryd.f5 := (Option.some.inj (Tryd.func5.symm.trans hfn)).symm
  refine ⟨by kernel_rfl, fun j t ht => ?_⟩
  rw [Tryd.params5] at ht
  have hm : t ∈ ([27] : List TypeId) := by simpa using Array.mem_of_getElem? ht
  have hall : (([27] : List TypeId).all fun u => !Tryd.prog.wantsStandIn u) = true := by kernel_rfl
  exact (show Tryd.prog.wantsStandIn t = false by simpa using List.all_eq_true.1 hall t hm)
theorem card : Rows.FairwayFreesCardSaid :=
  Claim7.holds_tied_plain_at .later [] _ _ _ _ said (fun _ h => by cases h) (by kernel_rfl) (fun _ h => by cases h) fairwayFrees_row_tie rfl ⟨rfl, rfl⟩ (by kernel_rfl) rfl plain (by kernel_rfl)
end FairwayFrees
end Go.Proofs.YtamimgmoomcipaaDoor.Lw
theorem Go.Proofs.YtamimgmoomcipaaDoor.fairwayFrees_holds : Go.Proofs.YtamimgmoomcipaaDoor.Rows.FairwayFreesCardSaid := Go.Proofs.YtamimgmoomcipaaDoor.Lw.FairwayFrees.card
