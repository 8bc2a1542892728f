/-
  FairwayTrue: for every book, and whatever numbers choose, the law returns true, and leaves all as it was. Conditions: none but the row's own.
-/
import Derived.Test.YtamimgmoomcipaaDoorFairwayTrueA3
import Derived.ArgAppend
import Derived.Below
import Derived.Carry
import Derived.ChangeKeysEq
import Derived.ControlIn
import Derived.Deep.DeepHandedRow
import Derived.Deep.DeepWitnessRowRef
import Derived.Deep.Draws
import Derived.Deep.Quiet
import Derived.Deep.Slices
import Derived.KernelRfl
import Derived.LaidMore
import Derived.Laws.AppendOwn
import Derived.Laws.Cells
import Derived.Laws.CopyRow
import Derived.Laws.IdiomRangeMap
import Derived.Laws.Rows
import Derived.MapKept
import Derived.Maps.AppendAt
import Derived.OpenShut
import Derived.OrdersHeld
import Derived.OrdersIn
import Derived.ProofKit
import Derived.RangeFuncLeaves
import Derived.RangeFuncNested
import Derived.RangeFuncOwn
import Derived.SevenTiedAt
import Derived.SizedLaws
import Derived.Stop.Joined
import Derived.Test.YtamimgmoomcipaaDoorCards
import Derived.Test.YtamimgmoomcipaaDoorProg
import Derived.Test.YtamimgmoomcipaaDoorRows
import Derived.Test.YtamimgmoomcipaaDoorTie
import Derived.WalkKit
import Derived.WideKeyRuns
namespace Go.Proofs.YtamimgmoomcipaaDoor.Lw
open Go Go.RowKit Go.Proofs.YtamimgmoomcipaaDoor.Eng Go.Proofs.YtamimgmoomcipaaDoor.Fw Go.Proofs.YtamimgmoomcipaaDoor.Rf
set_option linter.unusedVariables false
set_option linter.unusedSimpArgs false
def FairwayTrueL_c1 (b : Book) (bits : List Int) (n : Int × Int × Int) (k1 : Nat) : Unit → Bool := fun _ => decide ((k1 : Int) < ((freeA (⟨b.ships, (rightlyL b (trulyL b bits).1).hear, (rightlyL b (trulyL b bits).1).br, (rightlyL b (trulyL b bits).1).cr, (rightlyL b (trulyL b bits).1).sl, (rightlyL b (trulyL b bits).1).sights⟩ : Book)).1.length : Int))
def FairwayTrueL_b1 (b : Book) (bits : List Int) (n : Int × Int × Int) (k1 : Nat) : Unit → Bd Unit Bool := fun _ => (bif decide ((meetsL (⟨b.ships, (rightlyL b (trulyL b bits).1).hear, (rightlyL b (trulyL b bits).1).br, (rightlyL b (trulyL b bits).1).cr, (rightlyL b (trulyL b bits).1).sl, (rightlyL b (trulyL b bits).1).sights⟩ : Book) (trulyL b bits).1 ((freeA (⟨b.ships, (rightlyL b (trulyL b bits).1).hear, (rightlyL b (trulyL b bits).1).br, (rightlyL b (trulyL b bits).1).cr, (rightlyL b (trulyL b bits).1).sl, (rightlyL b (trulyL b bits).1).sights⟩ : Book)).1.getD k1 0)) ≥ 0) then .ret false else .go ())
def FairwayTrueL_c2 (b : Book) (bits : List Int) (n : Int × Int × Int) (k2 : Nat) : Unit → Bool := fun _ => decide ((k2 : Int) ≤ 200)
def FairwayTrueL_b2 (b : Book) (bits : List Int) (n : Int × Int × Int) (k2 : Nat) : Unit → Bd Unit Bool := fun _ => (bif (nearL (⟨b.ships, (rightlyL b (trulyL b bits).1).hear, (rightlyL b (trulyL b bits).1).br, (rightlyL b (trulyL b bits).1).cr, (rightlyL b (trulyL b bits).1).sl, (rightlyL b (trulyL b bits).1).sights⟩ : Book) (trulyL b bits).1 (modF n.1 (b.ships.length : Int)) (k2 : Int)) && (((whenA (⟨b.ships, (rightlyL b (trulyL b bits).1).hear, (rightlyL b (trulyL b bits).1).br, (rightlyL b (trulyL b bits).1).cr, (rightlyL b (trulyL b bits).1).sl, (rightlyL b (trulyL b bits).1).sights⟩ : Book) (modF n.1 (b.ships.length : Int))).2 != 0) || (!(containsF (whenA (⟨b.ships, (rightlyL b (trulyL b bits).1).hear, (rightlyL b (trulyL b bits).1).br, (rightlyL b (trulyL b bits).1).cr, (rightlyL b (trulyL b bits).1).sl, (rightlyL b (trulyL b bits).1).sights⟩ : Book) (modF n.1 (b.ships.length : Int))).1 (k2 : Int)))) then .ret false else .go ())
def FairwayTrueL (b : Book) (bits : List Int) (n : Int × Int × Int) : Bool :=
  (bif !(soundL b) then passedL else (bif !(trulyL b bits).2 then passedL else (bif ((((((((((rightA (⟨b.ships, (rightlyL b (trulyL b bits).1).hear, (rightlyL b (trulyL b bits).1).br, (rightlyL b (trulyL b bits).1).cr, (rightlyL b (trulyL b bits).1).sl, (rightlyL b (trulyL b bits).1).sights⟩ : Book)).2 != 0) || ((wrongA (⟨b.ships, (rightlyL b (trulyL b bits).1).hear, (rightlyL b (trulyL b bits).1).br, (rightlyL b (trulyL b bits).1).cr, (rightlyL b (trulyL b bits).1).sl, (rightlyL b (trulyL b bits).1).sights⟩ : Book)).2 != 0)) || ((hearA (⟨b.ships, (rightlyL b (trulyL b bits).1).hear, (rightlyL b (trulyL b bits).1).br, (rightlyL b (trulyL b bits).1).cr, (rightlyL b (trulyL b bits).1).sl, (rightlyL b (trulyL b bits).1).sights⟩ : Book)).2 != 0)) || ((clearA (⟨b.ships, (rightlyL b (trulyL b bits).1).hear, (rightlyL b (trulyL b bits).1).br, (rightlyL b (trulyL b bits).1).cr, (rightlyL b (trulyL b bits).1).sl, (rightlyL b (trulyL b bits).1).sights⟩ : Book) (modF n.2.2 61)).2 != 0)) || ((freeA (⟨b.ships, (rightlyL b (trulyL b bits).1).hear, (rightlyL b (trulyL b bits).1).br, (rightlyL b (trulyL b bits).1).cr, (rightlyL b (trulyL b bits).1).sl, (rightlyL b (trulyL b bits).1).sights⟩ : Book)).2 != 0)) || (!(rightA (⟨b.ships, (rightlyL b (trulyL b bits).1).hear, (rightlyL b (trulyL b bits).1).br, (rightlyL b (trulyL b bits).1).cr, (rightlyL b (trulyL b bits).1).sl, (rightlyL b (trulyL b bits).1).sights⟩ : Book)).1)) || (((wrongA (⟨b.ships, (rightlyL b (trulyL b bits).1).hear, (rightlyL b (trulyL b bits).1).br, (rightlyL b (trulyL b bits).1).cr, (rightlyL b (trulyL b bits).1).sl, (rightlyL b (trulyL b bits).1).sights⟩ : Book)).1.length : Int) != 0)) || (!(containsF (hearA (⟨b.ships, (rightlyL b (trulyL b bits).1).hear, (rightlyL b (trulyL b bits).1).br, (rightlyL b (trulyL b bits).1).cr, (rightlyL b (trulyL b bits).1).sl, (rightlyL b (trulyL b bits).1).sights⟩ : Book)).1 (trulyL b bits).1.hear))) || (!(insideF (clearA (⟨b.ships, (rightlyL b (trulyL b bits).1).hear, (rightlyL b (trulyL b bits).1).br, (rightlyL b (trulyL b bits).1).cr, (rightlyL b (trulyL b bits).1).sl, (rightlyL b (trulyL b bits).1).sights⟩ : Book) (modF n.2.2 61)).1 0 2))) || (!(climbsF (freeA (⟨b.ships, (rightlyL b (trulyL b bits).1).hear, (rightlyL b (trulyL b bits).1).br, (rightlyL b (trulyL b bits).1).cr, (rightlyL b (trulyL b bits).1).sl, (rightlyL b (trulyL b bits).1).sights⟩ : Book)).1 61)) then false else (bif (((((clearA (⟨b.ships, (rightlyL b (trulyL b bits).1).hear, (rightlyL b (trulyL b bits).1).br, (rightlyL b (trulyL b bits).1).cr, (rightlyL b (trulyL b bits).1).sl, (rightlyL b (trulyL b bits).1).sights⟩ : Book) (modF n.2.2 61)).1 == 2) && (decide ((meetsL (⟨b.ships, (rightlyL b (trulyL b bits).1).hear, (rightlyL b (trulyL b bits).1).br, (rightlyL b (trulyL b bits).1).cr, (rightlyL b (trulyL b bits).1).sl, (rightlyL b (trulyL b bits).1).sights⟩ : Book) (trulyL b bits).1 (modF n.2.2 61)) ≥ 0))) || (((clearA (⟨b.ships, (rightlyL b (trulyL b bits).1).hear, (rightlyL b (trulyL b bits).1).br, (rightlyL b (trulyL b bits).1).cr, (rightlyL b (trulyL b bits).1).sl, (rightlyL b (trulyL b bits).1).sights⟩ : Book) (modF n.2.2 61)).1 == 0) && (decide ((meetsL (⟨b.ships, (rightlyL b (trulyL b bits).1).hear, (rightlyL b (trulyL b bits).1).br, (rightlyL b (trulyL b bits).1).cr, (rightlyL b (trulyL b bits).1).sl, (rightlyL b (trulyL b bits).1).sights⟩ : Book) (trulyL b bits).1 (modF n.2.2 61)) < 0)))) || (!(((mayA (⟨b.ships, (rightlyL b (trulyL b bits).1).hear, (rightlyL b (trulyL b bits).1).br, (rightlyL b (trulyL b bits).1).cr, (rightlyL b (trulyL b bits).1).sl, (rightlyL b (trulyL b bits).1).sights⟩ : Book) (modF n.2.2 61)).2 == 4) == ((clearA (⟨b.ships, (rightlyL b (trulyL b bits).1).hear, (rightlyL b (trulyL b bits).1).br, (rightlyL b (trulyL b bits).1).cr, (rightlyL b (trulyL b bits).1).sl, (rightlyL b (trulyL b bits).1).sights⟩ : Book) (modF n.2.2 61)).1 == 2)))) || ((((mayA (⟨b.ships, (rightlyL b (trulyL b bits).1).hear, (rightlyL b (trulyL b bits).1).br, (rightlyL b (trulyL b bits).1).cr, (rightlyL b (trulyL b bits).1).sl, (rightlyL b (trulyL b bits).1).sights⟩ : Book) (modF n.2.2 61)).2 == 0) && (decide ((meetsL (⟨b.ships, (rightlyL b (trulyL b bits).1).hear, (rightlyL b (trulyL b bits).1).br, (rightlyL b (trulyL b bits).1).cr, (rightlyL b (trulyL b bits).1).sl, (rightlyL b (trulyL b bits).1).sights⟩ : Book) (trulyL b bits).1 (modF n.2.2 61)) ≥ 0))) && (decide ((meetsL (⟨b.ships, (rightlyL b (trulyL b bits).1).hear, (rightlyL b (trulyL b bits).1).br, (rightlyL b (trulyL b bits).1).cr, (rightlyL b (trulyL b bits).1).sl, (rightlyL b (trulyL b bits).1).sights⟩ : Book) (trulyL b bits).1 (modF n.2.2 61)) < (mayA (⟨b.ships, (rightlyL b (trulyL b bits).1).hear, (rightlyL b (trulyL b bits).1).br, (rightlyL b (trulyL b bits).1).cr, (rightlyL b (trulyL b bits).1).sl, (rightlyL b (trulyL b bits).1).sights⟩ : Book) (modF n.2.2 61)).1))) then false else (match loopR (FairwayTrueL_c1 b bits n) (FairwayTrueL_b1 b bits n) (freeA (⟨b.ships, (rightlyL b (trulyL b bits).1).hear, (rightlyL b (trulyL b bits).1).br, (rightlyL b (trulyL b bits).1).cr, (rightlyL b (trulyL b bits).1).sl, (rightlyL b (trulyL b bits).1).sights⟩ : Book)).1.length 0 () with | .brk () => (bif (b.ships.length : Int) == 0 then passedL else (bif ((((nearA (⟨b.ships, (rightlyL b (trulyL b bits).1).hear, (rightlyL b (trulyL b bits).1).br, (rightlyL b (trulyL b bits).1).cr, (rightlyL b (trulyL b bits).1).sl, (rightlyL b (trulyL b bits).1).sights⟩ : Book) (modF n.1 (b.ships.length : Int)) (modF n.2.1 201)).2 != 0) || (((nearA (⟨b.ships, (rightlyL b (trulyL b bits).1).hear, (rightlyL b (trulyL b bits).1).br, (rightlyL b (trulyL b bits).1).cr, (rightlyL b (trulyL b bits).1).sl, (rightlyL b (trulyL b bits).1).sights⟩ : Book) (modF n.1 (b.ships.length : Int)) (modF n.2.1 201)).1 == 2) && (!(nearL (⟨b.ships, (rightlyL b (trulyL b bits).1).hear, (rightlyL b (trulyL b bits).1).br, (rightlyL b (trulyL b bits).1).cr, (rightlyL b (trulyL b bits).1).sl, (rightlyL b (trulyL b bits).1).sights⟩ : Book) (trulyL b bits).1 (modF n.1 (b.ships.length : Int)) (modF n.2.1 201))))) || (((nearA (⟨b.ships, (rightlyL b (trulyL b bits).1).hear, (rightlyL b (trulyL b bits).1).br, (rightlyL b (trulyL b bits).1).cr, (rightlyL b (trulyL b bits).1).sl, (rightlyL b (trulyL b bits).1).sights⟩ : Book) (modF n.1 (b.ships.length : Int)) (modF n.2.1 201)).1 == 0) && (nearL (⟨b.ships, (rightlyL b (trulyL b bits).1).hear, (rightlyL b (trulyL b bits).1).br, (rightlyL b (trulyL b bits).1).cr, (rightlyL b (trulyL b bits).1).sl, (rightlyL b (trulyL b bits).1).sights⟩ : Book) (trulyL b bits).1 (modF n.1 (b.ships.length : Int)) (modF n.2.1 201)))) || (((whenA (⟨b.ships, (rightlyL b (trulyL b bits).1).hear, (rightlyL b (trulyL b bits).1).br, (rightlyL b (trulyL b bits).1).cr, (rightlyL b (trulyL b bits).1).sl, (rightlyL b (trulyL b bits).1).sights⟩ : Book) (modF n.1 (b.ships.length : Int))).2 != 0) && ((whenA (⟨b.ships, (rightlyL b (trulyL b bits).1).hear, (rightlyL b (trulyL b bits).1).br, (rightlyL b (trulyL b bits).1).cr, (rightlyL b (trulyL b bits).1).sl, (rightlyL b (trulyL b bits).1).sights⟩ : Book) (modF n.1 (b.ships.length : Int))).2 != 4)) then false else (match loopR (FairwayTrueL_c2 b bits n) (FairwayTrueL_b2 b bits n) 201 0 () with | .brk () => passedL | .ret r => r))) | .ret r => r)))))
theorem FairwayTrueL_calls (g0 g1 g2 : Value) (b : Book) (bits : List Int) (n : Int × Int × Int) (w : World) (r0 : Reads w g0 5 b.ships encShip zShip) (r1 : Reads w g1 4 b.sights encSight zSight) (r2 : Reads w g2 1 bits encI 0) (ha : AsksAt w) : Calls Tryd.prog 6 #[.agg #[g0, iv b.hear.lo, iv b.hear.hi, iv b.br, iv b.cr, iv b.sl, g1], g2, .agg #[iv n.1, iv n.2.1, iv n.2.2]] w fun e w' => e = .returned (.bool (FairwayTrueL b bits n)) ∧ Below w.heap.size w w' := by
  refine calls_of_WP (cx := cx0 w (vn [g0, g1, g2]) 3) (n := vn [g0, g1, g2]) (vs := [.g [.ref 0, .int .i64 b.hear.lo, .int .i64 b.hear.hi, .int .i64 b.br, .int .i64 b.cr, .int .i64 b.sl, .ref 1], .s (.ref 2), .g [.int .i64 n.1, .int .i64 n.2.1, .int .i64 n.2.2]]) (hp := [(0, .sl .ro 65 5 b.ships encShip zShip), (1, .sl .ro 70 4 b.sights encSight zSight), (2, .sl .ro 3 1 bits encI 0), (3, .pf AsksAt (· = 0))]) (nx := 4) tt_ok Tryd.func6 rfl rfl rfl (by kernel_rfl) (HSat_args (vn_one (by simp [r0.one, r1.one, r2.one])) (by decide) ⟨⟨⟨fun _ => rfl, by decide, r0⟩, (Nat.le_of_ble_eq_true rfl)⟩, ⟨⟨fun _ => rfl, by decide, r1⟩, (Nat.le_of_ble_eq_true rfl)⟩, ⟨⟨fun _ => rfl, by decide, r2⟩, (Nat.le_of_ble_eq_true rfl)⟩, ⟨⟨ha, fun w1 w2 h1 hw => (hw 0 rfl).trans h1, fun g hg => by cases hg; exact (Array.getElem?_eq_some_iff.1 ha).1⟩, (Nat.le_of_ble_eq_true rfl)⟩, trivial⟩) (vsOk (by kernel_rfl)) ?_
  have hl0 := Reads.len r0
  have hl1 := Reads.len r1
  have hl2 := Reads.len r2
  refine WP_seq (WP_region (WPO_all tt_ok (by kernel_rfl) ?_))
  refine WP_seq (WP_seq (WP_region (WPO_run tt_ok 1 (by kernel_rfl) ?_)))
  refine CALL 21 [.g [.ref 0, .int .i64 b.hear.lo, .int .i64 b.hear.hi, .int .i64 b.br, .int .i64 b.cr, .int .i64 b.sl, .ref 1]] (.s (.bool (soundL b))) [] (by kernel_rfl) (goes_of (by kernel_rfl)) (by kernel_rfl) (by kernel_rfl) (fun _ nV w h => soundL_calls (nV 0) (nV 1) b w (h.reads (id := 0) (kd := .ro) (e := 65) (by kernel_rfl)) (h.reads (id := 1) (kd := .ro) (e := 70) (by kernel_rfl)) ) ?_
  refine WPO_all tt_ok (by kernel_rfl) ?_
  refine WP_cond (!(soundL b)) (by kernel_rfl) (fun hc2 => ?_) (fun hc2 => ?_)
  · have hc2' := hc2; try simp only [Bool.and_eq_true, Bool.or_eq_true, Bool.and_eq_false_iff, Bool.or_eq_false_iff, Bool.not_eq_true', Bool.not_eq_false', decide_eq_true_eq, decide_eq_false_iff_not, beq_iff_eq, beq_eq_false_iff_ne, bne_iff_ne, bne_eq_false_iff_eq, ne_eq] at hc2'
    refine WP_seq (WP_region (CALL 18 [] (.s (.bool passedL)) [] (by kernel_rfl) (goes_of (by kernel_rfl)) (by kernel_rfl) (by kernel_rfl) (fun _ nV w h => passedL_calls   w (h.ents (3, .pf AsksAt (· = 0)) (fnd_mem (by kernel_rfl))).1 ) ?_))
    refine WPO_all tt_ok (by kernel_rfl) ?_
    refine WP_ret ?_
    exact ⟨.s (.bool passedL), by kernel_rfl, fun nV w' h => ⟨by rw [show FairwayTrueL b bits n = passedL from by unfold FairwayTrueL; simp only [hc2, cond_true, cond_false]]; rfl, h.bel⟩⟩
  have hc2' := hc2; try simp only [Bool.and_eq_true, Bool.or_eq_true, Bool.and_eq_false_iff, Bool.or_eq_false_iff, Bool.not_eq_true', Bool.not_eq_false', decide_eq_true_eq, decide_eq_false_iff_not, beq_iff_eq, beq_eq_false_iff_ne, bne_iff_ne, bne_eq_false_iff_eq, ne_eq] at hc2'
  refine WP_skip ?_
  refine WP_seq (WP_region (WPO_run tt_ok 2 (by kernel_rfl) ?_))
  refine CALLRS 22 [.g [.ref 0, .int .i64 b.hear.lo, .int .i64 b.hear.hi, .int .i64 b.br, .int .i64 b.cr, .int .i64 b.sl, .ref 1], .s (.ref 2)] (.t [(true, [.int .i64 (trulyL b bits).1.hear, .ref 6, .ref 7]), (false, [.bool (trulyL b bits).2])]) [⟨3, 1, _, (trulyL b bits).1.away, encI, 0⟩, ⟨3, 1, _, (trulyL b bits).1.speed, encI, 0⟩] 6 (by kernel_rfl) (by kernel_rfl) (goes_of (by kernel_rfl)) (by kernel_rfl) (by kernel_rfl) ⟨⟨(Nat.le_of_ble_eq_true rfl), fun _ => rfl⟩, ⟨(Nat.le_of_ble_eq_true rfl), fun _ => rfl⟩, trivial⟩ (fun nV w h => (trulyL_calls (nV 0) (nV 1) (nV 2) b bits w (h.reads (id := 0) (kd := .ro) (e := 65) (by kernel_rfl)) (h.reads (id := 1) (kd := .ro) (e := 70) (by kernel_rfl)) (h.reads (id := 2) (kd := .ro) (e := 3) (by kernel_rfl)) (by (try dsimp only); first | assumption | omega | exact sound_valid (by assumption))).mono fun e w' ⟨v0, v1, h1, h2, h3, _⟩ => ⟨[v0, v1], h1, h2, h3⟩) ?_
  refine WPO_all tt_ok (by kernel_rfl) ?_
  refine WP_seq (WP_seq (WP_region (WPO_all tt_ok (by kernel_rfl) ?_)))
  refine WP_cond (!(trulyL b bits).2) (by kernel_rfl) (fun hc4 => ?_) (fun hc4 => ?_)
  · have hc4' := hc4; try simp only [Bool.and_eq_true, Bool.or_eq_true, Bool.and_eq_false_iff, Bool.or_eq_false_iff, Bool.not_eq_true', Bool.not_eq_false', decide_eq_true_eq, decide_eq_false_iff_not, beq_iff_eq, beq_eq_false_iff_ne, bne_iff_ne, bne_eq_false_iff_eq, ne_eq] at hc4'
    refine WP_seq (WP_region (CALL 18 [] (.s (.bool passedL)) [] (by kernel_rfl) (goes_of (by kernel_rfl)) (by kernel_rfl) (by kernel_rfl) (fun _ nV w h => passedL_calls   w (h.ents (3, .pf AsksAt (· = 0)) (fnd_mem (by kernel_rfl))).1 ) ?_))
    refine WPO_all tt_ok (by kernel_rfl) ?_
    refine WP_ret ?_
    exact ⟨.s (.bool passedL), by kernel_rfl, fun nV w' h => ⟨by rw [show FairwayTrueL b bits n = passedL from by unfold FairwayTrueL; simp only [hc2, hc4, cond_true, cond_false]]; rfl, h.bel⟩⟩
  have hc4' := hc4; try simp only [Bool.and_eq_true, Bool.or_eq_true, Bool.and_eq_false_iff, Bool.or_eq_false_iff, Bool.not_eq_true', Bool.not_eq_false', decide_eq_true_eq, decide_eq_false_iff_not, beq_iff_eq, beq_eq_false_iff_ne, bne_iff_ne, bne_eq_false_iff_eq, ne_eq] at hc4'
  refine WP_skip ?_
  have hv := sound_valid (b := b) (by assumption)
  have htl := truly_truth (b := b) (bits := bits) hv (by assumption)
  have hka : b.ships.length ≤ (trulyL b bits).1.away.length := by rw [htl.la]; omega
  have hks : b.ships.length ≤ (trulyL b bits).1.speed.length := by rw [htl.ls]; omega
  refine WP_seq (WP_region (WPO_run tt_ok 2 (by kernel_rfl) ?_))
  refine CALLO 23 [.g [.ref 0, .int .i64 b.hear.lo, .int .i64 b.hear.hi, .int .i64 b.br, .int .i64 b.cr, .int .i64 b.sl, .ref 1], .g [.int .i64 (trulyL b bits).1.hear, .ref 6, .ref 7]] (.g [.ref 0, .int .i64 (rightlyL b (trulyL b bits).1).hear.lo, .int .i64 (rightlyL b (trulyL b bits).1).hear.hi, .int .i64 (rightlyL b (trulyL b bits).1).br, .int .i64 (rightlyL b (trulyL b bits).1).cr, .int .i64 (rightlyL b (trulyL b bits).1).sl, .ref 9]) 70 4 (rightlyL b (trulyL b bits).1).sights encSight zSight 9 (by kernel_rfl) (by kernel_rfl) (goes_of (by kernel_rfl)) (by kernel_rfl) (by kernel_rfl) (fun _ => rfl) ((fun nV w h => rightlyL_calls (nV 0) (nV 1) (nV 6) (nV 7) b (trulyL b bits).1 w (h.reads (id := 0) (kd := .ro) (e := 65) (by kernel_rfl)) (h.reads (id := 1) (kd := .ro) (e := 70) (by kernel_rfl)) (h.reads (id := 6) (kd := .ro) (e := 3) (by kernel_rfl)) (h.reads (id := 7) (kd := .ro) (e := 3) (by kernel_rfl)) (by (try dsimp only); first | assumption | omega | exact sound_valid (by assumption)) (by (try dsimp only); first | assumption | omega | exact sound_valid (by assumption)) (by (try dsimp only); first | assumption | omega | exact sound_valid (by assumption)))) ?_
  refine WPO_all tt_ok (by kernel_rfl) ?_
  have hvx : Valid (⟨b.ships, (rightlyL b (trulyL b bits).1).hear, (rightlyL b (trulyL b bits).1).br, (rightlyL b (trulyL b bits).1).cr, (rightlyL b (trulyL b bits).1).sl, (rightlyL b (trulyL b bits).1).sights⟩ : Book) := (by have h9 := rightly_valid hv htl; rw [rightly_eq] at h9 ⊢; exact h9)
  have hm61 := modF_in n.2.2 61 (by omega) (by omega)
  refine WP_seq (WP_draw (by kernel_rfl) (by kernel_rfl) ?_)
  refine QAIX tt_ok 1 3 [] (by kernel_rfl) (fun hG => ⟨by omega, by omega⟩) ?_
  refine QARD tt_ok 5 1 1 0 [] 38 [.int .i64 n.1, .int .i64 n.2.1, .int .i64 n.2.2] (.int .i64 n.2.1) (by kernel_rfl) (by kernel_rfl) (by kernel_rfl) (fun _ => rfl) ?_
  refine QCALL 24 [.s (.int .i64 n.2.1), .s (.int .i64 201)] (.s (.int .i64 (modF n.2.1 201))) [] (by kernel_rfl) (goes_of (by kernel_rfl)) (by kernel_rfl) (by kernel_rfl) (fun _ nV w h => modF_calls  n.2.1 201 w  ) ?_
  refine QAIX tt_ok 2 3 [] (by kernel_rfl) (fun hG => ⟨by omega, by omega⟩) ?_
  refine QARD tt_ok 5 2 1 0 [] 38 [.int .i64 n.1, .int .i64 n.2.1, .int .i64 n.2.2] (.int .i64 n.2.2) (by kernel_rfl) (by kernel_rfl) (by kernel_rfl) (fun _ => rfl) ?_
  refine QCALL 24 [.s (.int .i64 n.2.2), .s (.int .i64 61)] (.s (.int .i64 (modF n.2.2 61))) [] (by kernel_rfl) (goes_of (by kernel_rfl)) (by kernel_rfl) (by kernel_rfl) (fun _ nV w h => modF_calls  n.2.2 61 w  ) ?_
  refine WPQ_all tt_ok (by kernel_rfl) ?_
  refine WP_seq (WP_region (WPO_run tt_ok 1 (by kernel_rfl) ?_))
  refine CALL 25 [.g [.ref 0, .int .i64 (rightlyL b (trulyL b bits).1).hear.lo, .int .i64 (rightlyL b (trulyL b bits).1).hear.hi, .int .i64 (rightlyL b (trulyL b bits).1).br, .int .i64 (rightlyL b (trulyL b bits).1).cr, .int .i64 (rightlyL b (trulyL b bits).1).sl, .ref 9]] (.t [(false, [.bool (rightA (⟨b.ships, (rightlyL b (trulyL b bits).1).hear, (rightlyL b (trulyL b bits).1).br, (rightlyL b (trulyL b bits).1).cr, (rightlyL b (trulyL b bits).1).sl, (rightlyL b (trulyL b bits).1).sights⟩ : Book)).1]), (false, [.int .i64 (rightA (⟨b.ships, (rightlyL b (trulyL b bits).1).hear, (rightlyL b (trulyL b bits).1).br, (rightlyL b (trulyL b bits).1).cr, (rightlyL b (trulyL b bits).1).sl, (rightlyL b (trulyL b bits).1).sights⟩ : Book)).2])]) [] (by kernel_rfl) (goes_of (by kernel_rfl)) (by kernel_rfl) (by kernel_rfl) (fun _ nV w h => rightA_calls (nV 0) (nV 9) (⟨b.ships, (rightlyL b (trulyL b bits).1).hear, (rightlyL b (trulyL b bits).1).br, (rightlyL b (trulyL b bits).1).cr, (rightlyL b (trulyL b bits).1).sl, (rightlyL b (trulyL b bits).1).sights⟩ : Book) w (h.reads (id := 0) (kd := .ro) (e := 65) (by kernel_rfl)) (h.reads (id := 9) (kd := .own) (e := 70) (by kernel_rfl)) ) ?_
  refine WPO_all tt_ok (by kernel_rfl) ?_
  refine WP_seq (WP_region (WPO_run tt_ok 1 (by kernel_rfl) ?_))
  refine CALLR 26 [.g [.ref 0, .int .i64 (rightlyL b (trulyL b bits).1).hear.lo, .int .i64 (rightlyL b (trulyL b bits).1).hear.hi, .int .i64 (rightlyL b (trulyL b bits).1).br, .int .i64 (rightlyL b (trulyL b bits).1).cr, .int .i64 (rightlyL b (trulyL b bits).1).sl, .ref 9]] (.t [(false, [.ref 11]), (false, [.int .i64 (wrongA (⟨b.ships, (rightlyL b (trulyL b bits).1).hear, (rightlyL b (trulyL b bits).1).br, (rightlyL b (trulyL b bits).1).cr, (rightlyL b (trulyL b bits).1).sl, (rightlyL b (trulyL b bits).1).sights⟩ : Book)).2])]) 3 1 (wrongA (⟨b.ships, (rightlyL b (trulyL b bits).1).hear, (rightlyL b (trulyL b bits).1).br, (rightlyL b (trulyL b bits).1).cr, (rightlyL b (trulyL b bits).1).sl, (rightlyL b (trulyL b bits).1).sights⟩ : Book)).1 encI 0 11 (by kernel_rfl) (by kernel_rfl) (goes_of (by kernel_rfl)) (by kernel_rfl) (by kernel_rfl) (by decide) (fun _ => rfl) (fun nV w h => (wrongA_calls (nV 0) (nV 9) (⟨b.ships, (rightlyL b (trulyL b bits).1).hear, (rightlyL b (trulyL b bits).1).br, (rightlyL b (trulyL b bits).1).cr, (rightlyL b (trulyL b bits).1).sl, (rightlyL b (trulyL b bits).1).sights⟩ : Book) w (h.reads (id := 0) (kd := .ro) (e := 65) (by kernel_rfl)) (h.reads (id := 9) (kd := .own) (e := 70) (by kernel_rfl)) ).mono fun e w' h1 => weak_fresh h1) ?_
  refine WPO_all tt_ok (by kernel_rfl) ?_
  refine WP_seq (WP_region (WPO_run tt_ok 1 (by kernel_rfl) ?_))
  refine CALL 27 [.g [.ref 0, .int .i64 (rightlyL b (trulyL b bits).1).hear.lo, .int .i64 (rightlyL b (trulyL b bits).1).hear.hi, .int .i64 (rightlyL b (trulyL b bits).1).br, .int .i64 (rightlyL b (trulyL b bits).1).cr, .int .i64 (rightlyL b (trulyL b bits).1).sl, .ref 9]] (.t [(true, [.int .i64 (hearA (⟨b.ships, (rightlyL b (trulyL b bits).1).hear, (rightlyL b (trulyL b bits).1).br, (rightlyL b (trulyL b bits).1).cr, (rightlyL b (trulyL b bits).1).sl, (rightlyL b (trulyL b bits).1).sights⟩ : Book)).1.lo, .int .i64 (hearA (⟨b.ships, (rightlyL b (trulyL b bits).1).hear, (rightlyL b (trulyL b bits).1).br, (rightlyL b (trulyL b bits).1).cr, (rightlyL b (trulyL b bits).1).sl, (rightlyL b (trulyL b bits).1).sights⟩ : Book)).1.hi]), (false, [.int .i64 (hearA (⟨b.ships, (rightlyL b (trulyL b bits).1).hear, (rightlyL b (trulyL b bits).1).br, (rightlyL b (trulyL b bits).1).cr, (rightlyL b (trulyL b bits).1).sl, (rightlyL b (trulyL b bits).1).sights⟩ : Book)).2])]) [] (by kernel_rfl) (goes_of (by kernel_rfl)) (by kernel_rfl) (by kernel_rfl) (fun _ nV w h => hearA_calls (nV 0) (nV 9) (⟨b.ships, (rightlyL b (trulyL b bits).1).hear, (rightlyL b (trulyL b bits).1).br, (rightlyL b (trulyL b bits).1).cr, (rightlyL b (trulyL b bits).1).sl, (rightlyL b (trulyL b bits).1).sights⟩ : Book) w (h.reads (id := 0) (kd := .ro) (e := 65) (by kernel_rfl)) (h.reads (id := 9) (kd := .own) (e := 70) (by kernel_rfl)) (h.ents (3, .pf AsksAt (· = 0)) (fnd_mem (by kernel_rfl))).1 ) ?_
  refine WPO_all tt_ok (by kernel_rfl) ?_
  refine WP_seq (WP_region (WPO_run tt_ok 2 (by kernel_rfl) ?_))
  refine CALL 28 [.g [.ref 0, .int .i64 (rightlyL b (trulyL b bits).1).hear.lo, .int .i64 (rightlyL b (trulyL b bits).1).hear.hi, .int .i64 (rightlyL b (trulyL b bits).1).br, .int .i64 (rightlyL b (trulyL b bits).1).cr, .int .i64 (rightlyL b (trulyL b bits).1).sl, .ref 9], .s (.int .i64 (modF n.2.2 61))] (.t [(false, [.int .i64 (clearA (⟨b.ships, (rightlyL b (trulyL b bits).1).hear, (rightlyL b (trulyL b bits).1).br, (rightlyL b (trulyL b bits).1).cr, (rightlyL b (trulyL b bits).1).sl, (rightlyL b (trulyL b bits).1).sights⟩ : Book) (modF n.2.2 61)).1]), (false, [.int .i64 (clearA (⟨b.ships, (rightlyL b (trulyL b bits).1).hear, (rightlyL b (trulyL b bits).1).br, (rightlyL b (trulyL b bits).1).cr, (rightlyL b (trulyL b bits).1).sl, (rightlyL b (trulyL b bits).1).sights⟩ : Book) (modF n.2.2 61)).2])]) [] (by kernel_rfl) (goes_of (by kernel_rfl)) (by kernel_rfl) (by kernel_rfl) (fun _ nV w h => clearA_calls (nV 0) (nV 9) (⟨b.ships, (rightlyL b (trulyL b bits).1).hear, (rightlyL b (trulyL b bits).1).br, (rightlyL b (trulyL b bits).1).cr, (rightlyL b (trulyL b bits).1).sl, (rightlyL b (trulyL b bits).1).sights⟩ : Book) (modF n.2.2 61) w (h.reads (id := 0) (kd := .ro) (e := 65) (by kernel_rfl)) (h.reads (id := 9) (kd := .own) (e := 70) (by kernel_rfl)) (h.ents (3, .pf AsksAt (· = 0)) (fnd_mem (by kernel_rfl))).1 ) ?_
  refine WPO_all tt_ok (by kernel_rfl) ?_
  refine WP_seq (WP_region (WPO_run tt_ok 2 (by kernel_rfl) ?_))
  refine CALL 29 [.g [.ref 0, .int .i64 (rightlyL b (trulyL b bits).1).hear.lo, .int .i64 (rightlyL b (trulyL b bits).1).hear.hi, .int .i64 (rightlyL b (trulyL b bits).1).br, .int .i64 (rightlyL b (trulyL b bits).1).cr, .int .i64 (rightlyL b (trulyL b bits).1).sl, .ref 9], .s (.int .i64 (modF n.2.2 61))] (.t [(false, [.int .i64 (mayA (⟨b.ships, (rightlyL b (trulyL b bits).1).hear, (rightlyL b (trulyL b bits).1).br, (rightlyL b (trulyL b bits).1).cr, (rightlyL b (trulyL b bits).1).sl, (rightlyL b (trulyL b bits).1).sights⟩ : Book) (modF n.2.2 61)).1]), (false, [.int .i64 (mayA (⟨b.ships, (rightlyL b (trulyL b bits).1).hear, (rightlyL b (trulyL b bits).1).br, (rightlyL b (trulyL b bits).1).cr, (rightlyL b (trulyL b bits).1).sl, (rightlyL b (trulyL b bits).1).sights⟩ : Book) (modF n.2.2 61)).2])]) [] (by kernel_rfl) (goes_of (by kernel_rfl)) (by kernel_rfl) (by kernel_rfl) (fun _ nV w h => mayA_calls (nV 0) (nV 9) (⟨b.ships, (rightlyL b (trulyL b bits).1).hear, (rightlyL b (trulyL b bits).1).br, (rightlyL b (trulyL b bits).1).cr, (rightlyL b (trulyL b bits).1).sl, (rightlyL b (trulyL b bits).1).sights⟩ : Book) (modF n.2.2 61) w (h.reads (id := 0) (kd := .ro) (e := 65) (by kernel_rfl)) (h.reads (id := 9) (kd := .own) (e := 70) (by kernel_rfl)) (h.ents (3, .pf AsksAt (· = 0)) (fnd_mem (by kernel_rfl))).1 ) ?_
  refine WPO_all tt_ok (by kernel_rfl) ?_
  refine WP_seq (WP_region (WPO_run tt_ok 1 (by kernel_rfl) ?_))
  refine CALLR 30 [.g [.ref 0, .int .i64 (rightlyL b (trulyL b bits).1).hear.lo, .int .i64 (rightlyL b (trulyL b bits).1).hear.hi, .int .i64 (rightlyL b (trulyL b bits).1).br, .int .i64 (rightlyL b (trulyL b bits).1).cr, .int .i64 (rightlyL b (trulyL b bits).1).sl, .ref 9]] (.t [(false, [.ref 13]), (false, [.int .i64 (freeA (⟨b.ships, (rightlyL b (trulyL b bits).1).hear, (rightlyL b (trulyL b bits).1).br, (rightlyL b (trulyL b bits).1).cr, (rightlyL b (trulyL b bits).1).sl, (rightlyL b (trulyL b bits).1).sights⟩ : Book)).2])]) 3 1 (freeA (⟨b.ships, (rightlyL b (trulyL b bits).1).hear, (rightlyL b (trulyL b bits).1).br, (rightlyL b (trulyL b bits).1).cr, (rightlyL b (trulyL b bits).1).sl, (rightlyL b (trulyL b bits).1).sights⟩ : Book)).1 encI 0 13 (by kernel_rfl) (by kernel_rfl) (goes_of (by kernel_rfl)) (by kernel_rfl) (by kernel_rfl) (by decide) (fun _ => rfl) (fun nV w h => (freeA_calls (nV 0) (nV 9) (⟨b.ships, (rightlyL b (trulyL b bits).1).hear, (rightlyL b (trulyL b bits).1).br, (rightlyL b (trulyL b bits).1).cr, (rightlyL b (trulyL b bits).1).sl, (rightlyL b (trulyL b bits).1).sights⟩ : Book) w (h.reads (id := 0) (kd := .ro) (e := 65) (by kernel_rfl)) (h.reads (id := 9) (kd := .own) (e := 70) (by kernel_rfl)) (h.ents (3, .pf AsksAt (· = 0)) (fnd_mem (by kernel_rfl))).1 ).mono fun e w' h1 => weak_fresh h1) ?_
  refine WPO_all tt_ok (by kernel_rfl) ?_
  refine WP_seq (WP_seq (WP_region (WPO_run tt_ok 31 (by kernel_rfl) ?_)))
  refine CALL 31 [.g [.int .i64 (hearA (⟨b.ships, (rightlyL b (trulyL b bits).1).hear, (rightlyL b (trulyL b bits).1).br, (rightlyL b (trulyL b bits).1).cr, (rightlyL b (trulyL b bits).1).sl, (rightlyL b (trulyL b bits).1).sights⟩ : Book)).1.lo, .int .i64 (hearA (⟨b.ships, (rightlyL b (trulyL b bits).1).hear, (rightlyL b (trulyL b bits).1).br, (rightlyL b (trulyL b bits).1).cr, (rightlyL b (trulyL b bits).1).sl, (rightlyL b (trulyL b bits).1).sights⟩ : Book)).1.hi], .s (.int .i64 (trulyL b bits).1.hear)] (.s (.bool (containsF (hearA (⟨b.ships, (rightlyL b (trulyL b bits).1).hear, (rightlyL b (trulyL b bits).1).br, (rightlyL b (trulyL b bits).1).cr, (rightlyL b (trulyL b bits).1).sl, (rightlyL b (trulyL b bits).1).sights⟩ : Book)).1 (trulyL b bits).1.hear))) [((((((((rightA (⟨b.ships, (rightlyL b (trulyL b bits).1).hear, (rightlyL b (trulyL b bits).1).br, (rightlyL b (trulyL b bits).1).cr, (rightlyL b (trulyL b bits).1).sl, (rightlyL b (trulyL b bits).1).sights⟩ : Book)).2 != 0) || ((wrongA (⟨b.ships, (rightlyL b (trulyL b bits).1).hear, (rightlyL b (trulyL b bits).1).br, (rightlyL b (trulyL b bits).1).cr, (rightlyL b (trulyL b bits).1).sl, (rightlyL b (trulyL b bits).1).sights⟩ : Book)).2 != 0)) || ((hearA (⟨b.ships, (rightlyL b (trulyL b bits).1).hear, (rightlyL b (trulyL b bits).1).br, (rightlyL b (trulyL b bits).1).cr, (rightlyL b (trulyL b bits).1).sl, (rightlyL b (trulyL b bits).1).sights⟩ : Book)).2 != 0)) || ((clearA (⟨b.ships, (rightlyL b (trulyL b bits).1).hear, (rightlyL b (trulyL b bits).1).br, (rightlyL b (trulyL b bits).1).cr, (rightlyL b (trulyL b bits).1).sl, (rightlyL b (trulyL b bits).1).sights⟩ : Book) (modF n.2.2 61)).2 != 0)) || ((freeA (⟨b.ships, (rightlyL b (trulyL b bits).1).hear, (rightlyL b (trulyL b bits).1).br, (rightlyL b (trulyL b bits).1).cr, (rightlyL b (trulyL b bits).1).sl, (rightlyL b (trulyL b bits).1).sights⟩ : Book)).2 != 0)) || (!(rightA (⟨b.ships, (rightlyL b (trulyL b bits).1).hear, (rightlyL b (trulyL b bits).1).br, (rightlyL b (trulyL b bits).1).cr, (rightlyL b (trulyL b bits).1).sl, (rightlyL b (trulyL b bits).1).sights⟩ : Book)).1)) || (((wrongA (⟨b.ships, (rightlyL b (trulyL b bits).1).hear, (rightlyL b (trulyL b bits).1).br, (rightlyL b (trulyL b bits).1).cr, (rightlyL b (trulyL b bits).1).sl, (rightlyL b (trulyL b bits).1).sights⟩ : Book)).1.length : Int) != 0), false)] (by kernel_rfl) (goes_of (by kernel_rfl)) (by kernel_rfl) (by kernel_rfl) (fun _ nV w h => containsF_calls  (hearA (⟨b.ships, (rightlyL b (trulyL b bits).1).hear, (rightlyL b (trulyL b bits).1).br, (rightlyL b (trulyL b bits).1).cr, (rightlyL b (trulyL b bits).1).sl, (rightlyL b (trulyL b bits).1).sights⟩ : Book)).1 (trulyL b bits).1.hear w  ) ?_
  refine WPO_run tt_ok 4 (by kernel_rfl) ?_
  refine CALL 32 [.s (.int .i64 (clearA (⟨b.ships, (rightlyL b (trulyL b bits).1).hear, (rightlyL b (trulyL b bits).1).br, (rightlyL b (trulyL b bits).1).cr, (rightlyL b (trulyL b bits).1).sl, (rightlyL b (trulyL b bits).1).sights⟩ : Book) (modF n.2.2 61)).1), .s (.int .i64 0), .s (.int .i64 2)] (.s (.bool (insideF (clearA (⟨b.ships, (rightlyL b (trulyL b bits).1).hear, (rightlyL b (trulyL b bits).1).br, (rightlyL b (trulyL b bits).1).cr, (rightlyL b (trulyL b bits).1).sl, (rightlyL b (trulyL b bits).1).sights⟩ : Book) (modF n.2.2 61)).1 0 2))) [(((((((((rightA (⟨b.ships, (rightlyL b (trulyL b bits).1).hear, (rightlyL b (trulyL b bits).1).br, (rightlyL b (trulyL b bits).1).cr, (rightlyL b (trulyL b bits).1).sl, (rightlyL b (trulyL b bits).1).sights⟩ : Book)).2 != 0) || ((wrongA (⟨b.ships, (rightlyL b (trulyL b bits).1).hear, (rightlyL b (trulyL b bits).1).br, (rightlyL b (trulyL b bits).1).cr, (rightlyL b (trulyL b bits).1).sl, (rightlyL b (trulyL b bits).1).sights⟩ : Book)).2 != 0)) || ((hearA (⟨b.ships, (rightlyL b (trulyL b bits).1).hear, (rightlyL b (trulyL b bits).1).br, (rightlyL b (trulyL b bits).1).cr, (rightlyL b (trulyL b bits).1).sl, (rightlyL b (trulyL b bits).1).sights⟩ : Book)).2 != 0)) || ((clearA (⟨b.ships, (rightlyL b (trulyL b bits).1).hear, (rightlyL b (trulyL b bits).1).br, (rightlyL b (trulyL b bits).1).cr, (rightlyL b (trulyL b bits).1).sl, (rightlyL b (trulyL b bits).1).sights⟩ : Book) (modF n.2.2 61)).2 != 0)) || ((freeA (⟨b.ships, (rightlyL b (trulyL b bits).1).hear, (rightlyL b (trulyL b bits).1).br, (rightlyL b (trulyL b bits).1).cr, (rightlyL b (trulyL b bits).1).sl, (rightlyL b (trulyL b bits).1).sights⟩ : Book)).2 != 0)) || (!(rightA (⟨b.ships, (rightlyL b (trulyL b bits).1).hear, (rightlyL b (trulyL b bits).1).br, (rightlyL b (trulyL b bits).1).cr, (rightlyL b (trulyL b bits).1).sl, (rightlyL b (trulyL b bits).1).sights⟩ : Book)).1)) || (((wrongA (⟨b.ships, (rightlyL b (trulyL b bits).1).hear, (rightlyL b (trulyL b bits).1).br, (rightlyL b (trulyL b bits).1).cr, (rightlyL b (trulyL b bits).1).sl, (rightlyL b (trulyL b bits).1).sights⟩ : Book)).1.length : Int) != 0)) || (!(containsF (hearA (⟨b.ships, (rightlyL b (trulyL b bits).1).hear, (rightlyL b (trulyL b bits).1).br, (rightlyL b (trulyL b bits).1).cr, (rightlyL b (trulyL b bits).1).sl, (rightlyL b (trulyL b bits).1).sights⟩ : Book)).1 (trulyL b bits).1.hear)), false)] (by kernel_rfl) (goes_of (by kernel_rfl)) (by kernel_rfl) (by kernel_rfl) (fun _ nV w h => insideF_calls  (clearA (⟨b.ships, (rightlyL b (trulyL b bits).1).hear, (rightlyL b (trulyL b bits).1).br, (rightlyL b (trulyL b bits).1).cr, (rightlyL b (trulyL b bits).1).sl, (rightlyL b (trulyL b bits).1).sights⟩ : Book) (modF n.2.2 61)).1 0 2 w  ) ?_
  refine WPO_run tt_ok 4 (by kernel_rfl) ?_
  refine CALL 33 [.s (.ref 13), .s (.int .i64 61)] (.s (.bool (climbsF (freeA (⟨b.ships, (rightlyL b (trulyL b bits).1).hear, (rightlyL b (trulyL b bits).1).br, (rightlyL b (trulyL b bits).1).cr, (rightlyL b (trulyL b bits).1).sl, (rightlyL b (trulyL b bits).1).sights⟩ : Book)).1 61))) [((((((((((rightA (⟨b.ships, (rightlyL b (trulyL b bits).1).hear, (rightlyL b (trulyL b bits).1).br, (rightlyL b (trulyL b bits).1).cr, (rightlyL b (trulyL b bits).1).sl, (rightlyL b (trulyL b bits).1).sights⟩ : Book)).2 != 0) || ((wrongA (⟨b.ships, (rightlyL b (trulyL b bits).1).hear, (rightlyL b (trulyL b bits).1).br, (rightlyL b (trulyL b bits).1).cr, (rightlyL b (trulyL b bits).1).sl, (rightlyL b (trulyL b bits).1).sights⟩ : Book)).2 != 0)) || ((hearA (⟨b.ships, (rightlyL b (trulyL b bits).1).hear, (rightlyL b (trulyL b bits).1).br, (rightlyL b (trulyL b bits).1).cr, (rightlyL b (trulyL b bits).1).sl, (rightlyL b (trulyL b bits).1).sights⟩ : Book)).2 != 0)) || ((clearA (⟨b.ships, (rightlyL b (trulyL b bits).1).hear, (rightlyL b (trulyL b bits).1).br, (rightlyL b (trulyL b bits).1).cr, (rightlyL b (trulyL b bits).1).sl, (rightlyL b (trulyL b bits).1).sights⟩ : Book) (modF n.2.2 61)).2 != 0)) || ((freeA (⟨b.ships, (rightlyL b (trulyL b bits).1).hear, (rightlyL b (trulyL b bits).1).br, (rightlyL b (trulyL b bits).1).cr, (rightlyL b (trulyL b bits).1).sl, (rightlyL b (trulyL b bits).1).sights⟩ : Book)).2 != 0)) || (!(rightA (⟨b.ships, (rightlyL b (trulyL b bits).1).hear, (rightlyL b (trulyL b bits).1).br, (rightlyL b (trulyL b bits).1).cr, (rightlyL b (trulyL b bits).1).sl, (rightlyL b (trulyL b bits).1).sights⟩ : Book)).1)) || (((wrongA (⟨b.ships, (rightlyL b (trulyL b bits).1).hear, (rightlyL b (trulyL b bits).1).br, (rightlyL b (trulyL b bits).1).cr, (rightlyL b (trulyL b bits).1).sl, (rightlyL b (trulyL b bits).1).sights⟩ : Book)).1.length : Int) != 0)) || (!(containsF (hearA (⟨b.ships, (rightlyL b (trulyL b bits).1).hear, (rightlyL b (trulyL b bits).1).br, (rightlyL b (trulyL b bits).1).cr, (rightlyL b (trulyL b bits).1).sl, (rightlyL b (trulyL b bits).1).sights⟩ : Book)).1 (trulyL b bits).1.hear))) || (!(insideF (clearA (⟨b.ships, (rightlyL b (trulyL b bits).1).hear, (rightlyL b (trulyL b bits).1).br, (rightlyL b (trulyL b bits).1).cr, (rightlyL b (trulyL b bits).1).sl, (rightlyL b (trulyL b bits).1).sights⟩ : Book) (modF n.2.2 61)).1 0 2)), false)] (by kernel_rfl) (goes_of (by kernel_rfl)) (by kernel_rfl) (by kernel_rfl) (fun _ nV w h => climbsF_calls (nV 13) (freeA (⟨b.ships, (rightlyL b (trulyL b bits).1).hear, (rightlyL b (trulyL b bits).1).br, (rightlyL b (trulyL b bits).1).cr, (rightlyL b (trulyL b bits).1).sl, (rightlyL b (trulyL b bits).1).sights⟩ : Book)).1 61 w (h.reads (id := 13) (kd := .ro) (e := 3) (by kernel_rfl)) ) ?_
  refine WPO_all tt_ok (by kernel_rfl) ?_
  refine WP_cond (((((((((((rightA (⟨b.ships, (rightlyL b (trulyL b bits).1).hear, (rightlyL b (trulyL b bits).1).br, (rightlyL b (trulyL b bits).1).cr, (rightlyL b (trulyL b bits).1).sl, (rightlyL b (trulyL b bits).1).sights⟩ : Book)).2 != 0) || ((wrongA (⟨b.ships, (rightlyL b (trulyL b bits).1).hear, (rightlyL b (trulyL b bits).1).br, (rightlyL b (trulyL b bits).1).cr, (rightlyL b (trulyL b bits).1).sl, (rightlyL b (trulyL b bits).1).sights⟩ : Book)).2 != 0)) || ((hearA (⟨b.ships, (rightlyL b (trulyL b bits).1).hear, (rightlyL b (trulyL b bits).1).br, (rightlyL b (trulyL b bits).1).cr, (rightlyL b (trulyL b bits).1).sl, (rightlyL b (trulyL b bits).1).sights⟩ : Book)).2 != 0)) || ((clearA (⟨b.ships, (rightlyL b (trulyL b bits).1).hear, (rightlyL b (trulyL b bits).1).br, (rightlyL b (trulyL b bits).1).cr, (rightlyL b (trulyL b bits).1).sl, (rightlyL b (trulyL b bits).1).sights⟩ : Book) (modF n.2.2 61)).2 != 0)) || ((freeA (⟨b.ships, (rightlyL b (trulyL b bits).1).hear, (rightlyL b (trulyL b bits).1).br, (rightlyL b (trulyL b bits).1).cr, (rightlyL b (trulyL b bits).1).sl, (rightlyL b (trulyL b bits).1).sights⟩ : Book)).2 != 0)) || (!(rightA (⟨b.ships, (rightlyL b (trulyL b bits).1).hear, (rightlyL b (trulyL b bits).1).br, (rightlyL b (trulyL b bits).1).cr, (rightlyL b (trulyL b bits).1).sl, (rightlyL b (trulyL b bits).1).sights⟩ : Book)).1)) || (((wrongA (⟨b.ships, (rightlyL b (trulyL b bits).1).hear, (rightlyL b (trulyL b bits).1).br, (rightlyL b (trulyL b bits).1).cr, (rightlyL b (trulyL b bits).1).sl, (rightlyL b (trulyL b bits).1).sights⟩ : Book)).1.length : Int) != 0)) || (!(containsF (hearA (⟨b.ships, (rightlyL b (trulyL b bits).1).hear, (rightlyL b (trulyL b bits).1).br, (rightlyL b (trulyL b bits).1).cr, (rightlyL b (trulyL b bits).1).sl, (rightlyL b (trulyL b bits).1).sights⟩ : Book)).1 (trulyL b bits).1.hear))) || (!(insideF (clearA (⟨b.ships, (rightlyL b (trulyL b bits).1).hear, (rightlyL b (trulyL b bits).1).br, (rightlyL b (trulyL b bits).1).cr, (rightlyL b (trulyL b bits).1).sl, (rightlyL b (trulyL b bits).1).sights⟩ : Book) (modF n.2.2 61)).1 0 2))) || (!(climbsF (freeA (⟨b.ships, (rightlyL b (trulyL b bits).1).hear, (rightlyL b (trulyL b bits).1).br, (rightlyL b (trulyL b bits).1).cr, (rightlyL b (trulyL b bits).1).sl, (rightlyL b (trulyL b bits).1).sights⟩ : Book)).1 61))) (by kernel_rfl) (fun hc6 => ?_) (fun hc6 => ?_)
  · have hc6' := hc6; try simp only [Bool.and_eq_true, Bool.or_eq_true, Bool.and_eq_false_iff, Bool.or_eq_false_iff, Bool.not_eq_true', Bool.not_eq_false', decide_eq_true_eq, decide_eq_false_iff_not, beq_iff_eq, beq_eq_false_iff_ne, bne_iff_ne, bne_eq_false_iff_eq, ne_eq] at hc6'
    refine WP_seq (WP_region (WPO_all tt_ok (by kernel_rfl) ?_))
    refine WP_ret ?_
    exact ⟨.s (.bool false), by kernel_rfl, fun nV w' h => ⟨by rw [show FairwayTrueL b bits n = false from by unfold FairwayTrueL; simp only [hc2, hc4, hc6, cond_true, cond_false]]; rfl, h.bel⟩⟩
  have hc6' := hc6; try simp only [Bool.and_eq_true, Bool.or_eq_true, Bool.and_eq_false_iff, Bool.or_eq_false_iff, Bool.not_eq_true', Bool.not_eq_false', decide_eq_true_eq, decide_eq_false_iff_not, beq_iff_eq, beq_eq_false_iff_ne, bne_iff_ne, bne_eq_false_iff_eq, ne_eq] at hc6'
  refine WP_skip ?_
  refine WP_seq (WP_region (WPO_run tt_ok 3 (by kernel_rfl) ?_))
  refine CALL 34 [.g [.ref 0, .int .i64 (rightlyL b (trulyL b bits).1).hear.lo, .int .i64 (rightlyL b (trulyL b bits).1).hear.hi, .int .i64 (rightlyL b (trulyL b bits).1).br, .int .i64 (rightlyL b (trulyL b bits).1).cr, .int .i64 (rightlyL b (trulyL b bits).1).sl, .ref 9], .g [.int .i64 (trulyL b bits).1.hear, .ref 6, .ref 7], .s (.int .i64 (modF n.2.2 61))] (.s (.int .i64 (meetsL (⟨b.ships, (rightlyL b (trulyL b bits).1).hear, (rightlyL b (trulyL b bits).1).br, (rightlyL b (trulyL b bits).1).cr, (rightlyL b (trulyL b bits).1).sl, (rightlyL b (trulyL b bits).1).sights⟩ : Book) (trulyL b bits).1 (modF n.2.2 61)))) [] (by kernel_rfl) (goes_of (by kernel_rfl)) (by kernel_rfl) (by kernel_rfl) (fun _ nV w h => meetsL_calls (nV 0) (nV 9) (nV 6) (nV 7) (⟨b.ships, (rightlyL b (trulyL b bits).1).hear, (rightlyL b (trulyL b bits).1).br, (rightlyL b (trulyL b bits).1).cr, (rightlyL b (trulyL b bits).1).sl, (rightlyL b (trulyL b bits).1).sights⟩ : Book) (trulyL b bits).1 (modF n.2.2 61) w (h.reads (id := 0) (kd := .ro) (e := 65) (by kernel_rfl)) (h.reads (id := 9) (kd := .own) (e := 70) (by kernel_rfl)) (h.reads (id := 6) (kd := .ro) (e := 3) (by kernel_rfl)) (h.reads (id := 7) (kd := .ro) (e := 3) (by kernel_rfl)) (by (try dsimp only); first | assumption | omega | exact sound_valid (by assumption)) (by (try dsimp only); first | assumption | omega | exact sound_valid (by assumption)) (by (try dsimp only); first | assumption | omega | exact sound_valid (by assumption)) (by (try dsimp only); first | assumption | omega | exact sound_valid (by assumption))) ?_
  refine WPO_all tt_ok (by kernel_rfl) ?_
  refine WP_seq (WP_seq (WP_region (WPO_run tt_ok 19 (by kernel_rfl) ?_)))
  refine BIN .neq 4 (.tmp 150) (.tmp 152) (.s (.bool ((mayA (⟨b.ships, (rightlyL b (trulyL b bits).1).hear, (rightlyL b (trulyL b bits).1).br, (rightlyL b (trulyL b bits).1).cr, (rightlyL b (trulyL b bits).1).sl, (rightlyL b (trulyL b bits).1).sights⟩ : Book) (modF n.2.2 61)).2 == 4))) (.s (.bool ((clearA (⟨b.ships, (rightlyL b (trulyL b bits).1).hear, (rightlyL b (trulyL b bits).1).br, (rightlyL b (trulyL b bits).1).cr, (rightlyL b (trulyL b bits).1).sl, (rightlyL b (trulyL b bits).1).sights⟩ : Book) (modF n.2.2 61)).1 == 2))) (.s (.bool (!(((mayA (⟨b.ships, (rightlyL b (trulyL b bits).1).hear, (rightlyL b (trulyL b bits).1).br, (rightlyL b (trulyL b bits).1).cr, (rightlyL b (trulyL b bits).1).sl, (rightlyL b (trulyL b bits).1).sights⟩ : Book) (modF n.2.2 61)).2 == 4) == ((clearA (⟨b.ships, (rightlyL b (trulyL b bits).1).hear, (rightlyL b (trulyL b bits).1).br, (rightlyL b (trulyL b bits).1).cr, (rightlyL b (trulyL b bits).1).sl, (rightlyL b (trulyL b bits).1).sights⟩ : Book) (modF n.2.2 61)).1 == 2))))) [((((clearA (⟨b.ships, (rightlyL b (trulyL b bits).1).hear, (rightlyL b (trulyL b bits).1).br, (rightlyL b (trulyL b bits).1).cr, (rightlyL b (trulyL b bits).1).sl, (rightlyL b (trulyL b bits).1).sights⟩ : Book) (modF n.2.2 61)).1 == 2) && (decide ((meetsL (⟨b.ships, (rightlyL b (trulyL b bits).1).hear, (rightlyL b (trulyL b bits).1).br, (rightlyL b (trulyL b bits).1).cr, (rightlyL b (trulyL b bits).1).sl, (rightlyL b (trulyL b bits).1).sights⟩ : Book) (trulyL b bits).1 (modF n.2.2 61)) ≥ 0))) || (((clearA (⟨b.ships, (rightlyL b (trulyL b bits).1).hear, (rightlyL b (trulyL b bits).1).br, (rightlyL b (trulyL b bits).1).cr, (rightlyL b (trulyL b bits).1).sl, (rightlyL b (trulyL b bits).1).sights⟩ : Book) (modF n.2.2 61)).1 == 0) && (decide ((meetsL (⟨b.ships, (rightlyL b (trulyL b bits).1).hear, (rightlyL b (trulyL b bits).1).br, (rightlyL b (trulyL b bits).1).cr, (rightlyL b (trulyL b bits).1).sl, (rightlyL b (trulyL b bits).1).sights⟩ : Book) (trulyL b bits).1 (modF n.2.2 61)) < 0))), false)] (by kernel_rfl) (by kernel_rfl) (by kernel_rfl) (fun _ => BinOk_bn (by kernel_rfl) _ _) ?_
  refine WPO_all tt_ok (by kernel_rfl) ?_
  refine WP_cond ((((((clearA (⟨b.ships, (rightlyL b (trulyL b bits).1).hear, (rightlyL b (trulyL b bits).1).br, (rightlyL b (trulyL b bits).1).cr, (rightlyL b (trulyL b bits).1).sl, (rightlyL b (trulyL b bits).1).sights⟩ : Book) (modF n.2.2 61)).1 == 2) && (decide ((meetsL (⟨b.ships, (rightlyL b (trulyL b bits).1).hear, (rightlyL b (trulyL b bits).1).br, (rightlyL b (trulyL b bits).1).cr, (rightlyL b (trulyL b bits).1).sl, (rightlyL b (trulyL b bits).1).sights⟩ : Book) (trulyL b bits).1 (modF n.2.2 61)) ≥ 0))) || (((clearA (⟨b.ships, (rightlyL b (trulyL b bits).1).hear, (rightlyL b (trulyL b bits).1).br, (rightlyL b (trulyL b bits).1).cr, (rightlyL b (trulyL b bits).1).sl, (rightlyL b (trulyL b bits).1).sights⟩ : Book) (modF n.2.2 61)).1 == 0) && (decide ((meetsL (⟨b.ships, (rightlyL b (trulyL b bits).1).hear, (rightlyL b (trulyL b bits).1).br, (rightlyL b (trulyL b bits).1).cr, (rightlyL b (trulyL b bits).1).sl, (rightlyL b (trulyL b bits).1).sights⟩ : Book) (trulyL b bits).1 (modF n.2.2 61)) < 0)))) || (!(((mayA (⟨b.ships, (rightlyL b (trulyL b bits).1).hear, (rightlyL b (trulyL b bits).1).br, (rightlyL b (trulyL b bits).1).cr, (rightlyL b (trulyL b bits).1).sl, (rightlyL b (trulyL b bits).1).sights⟩ : Book) (modF n.2.2 61)).2 == 4) == ((clearA (⟨b.ships, (rightlyL b (trulyL b bits).1).hear, (rightlyL b (trulyL b bits).1).br, (rightlyL b (trulyL b bits).1).cr, (rightlyL b (trulyL b bits).1).sl, (rightlyL b (trulyL b bits).1).sights⟩ : Book) (modF n.2.2 61)).1 == 2)))) || ((((mayA (⟨b.ships, (rightlyL b (trulyL b bits).1).hear, (rightlyL b (trulyL b bits).1).br, (rightlyL b (trulyL b bits).1).cr, (rightlyL b (trulyL b bits).1).sl, (rightlyL b (trulyL b bits).1).sights⟩ : Book) (modF n.2.2 61)).2 == 0) && (decide ((meetsL (⟨b.ships, (rightlyL b (trulyL b bits).1).hear, (rightlyL b (trulyL b bits).1).br, (rightlyL b (trulyL b bits).1).cr, (rightlyL b (trulyL b bits).1).sl, (rightlyL b (trulyL b bits).1).sights⟩ : Book) (trulyL b bits).1 (modF n.2.2 61)) ≥ 0))) && (decide ((meetsL (⟨b.ships, (rightlyL b (trulyL b bits).1).hear, (rightlyL b (trulyL b bits).1).br, (rightlyL b (trulyL b bits).1).cr, (rightlyL b (trulyL b bits).1).sl, (rightlyL b (trulyL b bits).1).sights⟩ : Book) (trulyL b bits).1 (modF n.2.2 61)) < (mayA (⟨b.ships, (rightlyL b (trulyL b bits).1).hear, (rightlyL b (trulyL b bits).1).br, (rightlyL b (trulyL b bits).1).cr, (rightlyL b (trulyL b bits).1).sl, (rightlyL b (trulyL b bits).1).sights⟩ : Book) (modF n.2.2 61)).1)))) (by kernel_rfl) (fun hc8 => ?_) (fun hc8 => ?_)
  · have hc8' := hc8; try simp only [Bool.and_eq_true, Bool.or_eq_true, Bool.and_eq_false_iff, Bool.or_eq_false_iff, Bool.not_eq_true', Bool.not_eq_false', decide_eq_true_eq, decide_eq_false_iff_not, beq_iff_eq, beq_eq_false_iff_ne, bne_iff_ne, bne_eq_false_iff_eq, ne_eq] at hc8'
    refine WP_seq (WP_region (WPO_all tt_ok (by kernel_rfl) ?_))
    refine WP_ret ?_
    exact ⟨.s (.bool false), by kernel_rfl, fun nV w' h => ⟨by rw [show FairwayTrueL b bits n = false from by unfold FairwayTrueL; simp only [hc2, hc4, hc6, hc8, cond_true, cond_false]]; rfl, h.bel⟩⟩
  have hc8' := hc8; try simp only [Bool.and_eq_true, Bool.or_eq_true, Bool.and_eq_false_iff, Bool.or_eq_false_iff, Bool.not_eq_true', Bool.not_eq_false', decide_eq_true_eq, decide_eq_false_iff_not, beq_iff_eq, beq_eq_false_iff_ne, bne_iff_ne, bne_eq_false_iff_eq, ne_eq] at hc8'
  refine WP_skip ?_
  refine WP_seq (WP_seq (WP_region (WPO_all tt_ok (by kernel_rfl) ?_)))
  refine WP_fact (p := ((freeA (⟨b.ships, (rightlyL b (trulyL b bits).1).hear, (rightlyL b (trulyL b bits).1).br, (rightlyL b (trulyL b bits).1).cr, (rightlyL b (trulyL b bits).1).sl, (rightlyL b (trulyL b bits).1).sights⟩ : Book)).1.length : Int) ≤ 9223372036854775807) (fun nV aV wV hs => Reads.len (sz := 1) (enc := encI) (z := 0) (hs.heap.reads (id := 13) (kd := .ro) (e := 3) (by kernel_rfl))) (fun hN1 => ?_)
  refine WP_loopA (ρ := Bool) (FairwayTrueL_c1 b bits n) (FairwayTrueL_b1 b bits n) (freeA (⟨b.ships, (rightlyL b (trulyL b bits).1).hear, (rightlyL b (trulyL b bits).1).br, (rightlyL b (trulyL b bits).1).cr, (rightlyL b (trulyL b bits).1).sl, (rightlyL b (trulyL b bits).1).sights⟩ : Book)).1.length () (fun k : Nat => (k : Int)) (fun (ci : Int) (zz : Unit) => ⟨259, [(25, [], .s (.int .i64 ci)), (22, [], .s (.ref 13)), (10, [], .s (.int .i64 (modF n.2.1 201))), (9, [], .s (.p 10 0)), (7, [], .s (.p 8 0)), (5, [], .s (.p 5 0)), (3, [], .s (.p 4 0))], [(13, .sl .ro 3 1 (freeA (⟨b.ships, (rightlyL b (trulyL b bits).1).hear, (rightlyL b (trulyL b bits).1).br, (rightlyL b (trulyL b bits).1).cr, (rightlyL b (trulyL b bits).1).sl, (rightlyL b (trulyL b bits).1).sights⟩ : Book)).1 encI 0), (12, .box 24 [.int .i64 (hearA (⟨b.ships, (rightlyL b (trulyL b bits).1).hear, (rightlyL b (trulyL b bits).1).br, (rightlyL b (trulyL b bits).1).cr, (rightlyL b (trulyL b bits).1).sl, (rightlyL b (trulyL b bits).1).sights⟩ : Book)).1.lo, .int .i64 (hearA (⟨b.ships, (rightlyL b (trulyL b bits).1).hear, (rightlyL b (trulyL b bits).1).br, (rightlyL b (trulyL b bits).1).cr, (rightlyL b (trulyL b bits).1).sl, (rightlyL b (trulyL b bits).1).sights⟩ : Book)).1.hi]), (11, .sl .ro 3 1 (wrongA (⟨b.ships, (rightlyL b (trulyL b bits).1).hear, (rightlyL b (trulyL b bits).1).br, (rightlyL b (trulyL b bits).1).cr, (rightlyL b (trulyL b bits).1).sl, (rightlyL b (trulyL b bits).1).sights⟩ : Book)).1 encI 0), (10, .box 27 [.ref 0, .int .i64 (rightlyL b (trulyL b bits).1).hear.lo, .int .i64 (rightlyL b (trulyL b bits).1).hear.hi, .int .i64 (rightlyL b (trulyL b bits).1).br, .int .i64 (rightlyL b (trulyL b bits).1).cr, .int .i64 (rightlyL b (trulyL b bits).1).sl, .ref 9]), (9, .sl .own 70 4 (rightlyL b (trulyL b bits).1).sights encSight zSight), (8, .box 40 [.int .i64 (trulyL b bits).1.hear, .ref 6, .ref 7]), (7, .sl .ro 3 1 (trulyL b bits).1.speed encI 0), (6, .sl .ro 3 1 (trulyL b bits).1.away encI 0), (5, .box 38 [.int .i64 n.1, .int .i64 n.2.1, .int .i64 n.2.2]), (4, .box 27 [.ref 0, .int .i64 b.hear.lo, .int .i64 b.hear.hi, .int .i64 b.br, .int .i64 b.cr, .int .i64 b.sl, .ref 1]), (0, .sl .ro 65 5 b.ships encShip zShip), (1, .sl .ro 70 4 b.sights encSight zSight), (2, .sl .ro 3 1 bits encI 0), (3, .pf AsksAt (· = 0))], 14, []⟩) (fun zz : Unit => ⟨259, [(10, [], .s (.int .i64 (modF n.2.1 201))), (9, [], .s (.p 10 0)), (7, [], .s (.p 8 0)), (5, [], .s (.p 5 0)), (3, [], .s (.p 4 0))], [(13, .sl .ro 3 1 (freeA (⟨b.ships, (rightlyL b (trulyL b bits).1).hear, (rightlyL b (trulyL b bits).1).br, (rightlyL b (trulyL b bits).1).cr, (rightlyL b (trulyL b bits).1).sl, (rightlyL b (trulyL b bits).1).sights⟩ : Book)).1 encI 0), (12, .box 24 [.int .i64 (hearA (⟨b.ships, (rightlyL b (trulyL b bits).1).hear, (rightlyL b (trulyL b bits).1).br, (rightlyL b (trulyL b bits).1).cr, (rightlyL b (trulyL b bits).1).sl, (rightlyL b (trulyL b bits).1).sights⟩ : Book)).1.lo, .int .i64 (hearA (⟨b.ships, (rightlyL b (trulyL b bits).1).hear, (rightlyL b (trulyL b bits).1).br, (rightlyL b (trulyL b bits).1).cr, (rightlyL b (trulyL b bits).1).sl, (rightlyL b (trulyL b bits).1).sights⟩ : Book)).1.hi]), (11, .sl .ro 3 1 (wrongA (⟨b.ships, (rightlyL b (trulyL b bits).1).hear, (rightlyL b (trulyL b bits).1).br, (rightlyL b (trulyL b bits).1).cr, (rightlyL b (trulyL b bits).1).sl, (rightlyL b (trulyL b bits).1).sights⟩ : Book)).1 encI 0), (10, .box 27 [.ref 0, .int .i64 (rightlyL b (trulyL b bits).1).hear.lo, .int .i64 (rightlyL b (trulyL b bits).1).hear.hi, .int .i64 (rightlyL b (trulyL b bits).1).br, .int .i64 (rightlyL b (trulyL b bits).1).cr, .int .i64 (rightlyL b (trulyL b bits).1).sl, .ref 9]), (9, .sl .own 70 4 (rightlyL b (trulyL b bits).1).sights encSight zSight), (8, .box 40 [.int .i64 (trulyL b bits).1.hear, .ref 6, .ref 7]), (7, .sl .ro 3 1 (trulyL b bits).1.speed encI 0), (6, .sl .ro 3 1 (trulyL b bits).1.away encI 0), (5, .box 38 [.int .i64 n.1, .int .i64 n.2.1, .int .i64 n.2.2]), (4, .box 27 [.ref 0, .int .i64 b.hear.lo, .int .i64 b.hear.hi, .int .i64 b.br, .int .i64 b.cr, .int .i64 b.sl, .ref 1]), (0, .sl .ro 65 5 b.ships encShip zShip), (1, .sl .ro 70 4 b.sights encSight zSight), (2, .sl .ro 3 1 bits encI 0), (3, .pf AsksAt (· = 0))], 14, []⟩) (fun k zz => True) trivial ⟨0, rfl, Le_sel (ts := [25, 22, 10, 9, 7, 5, 3]) (ids := [13, 12, 11, 10, 9, 8, 7, 6, 5, 4, 0, 1, 2, 3]) (nx := 14) (by kernel_rfl)⟩ ?_ ?_
  · intro k1 zz hn1 hp1 hi1 Q1 hq1 ho1
    refine WP_seq (WP_seq (WP_region (WPO_all tt_ok (by kernel_rfl) ?_)))
    refine WP_cond (decide ((k1 : Int) < ((freeA (⟨b.ships, (rightlyL b (trulyL b bits).1).hear, (rightlyL b (trulyL b bits).1).br, (rightlyL b (trulyL b bits).1).cr, (rightlyL b (trulyL b bits).1).sl, (rightlyL b (trulyL b bits).1).sights⟩ : Book)).1.length : Int))) (by kernel_rfl) (fun hc9 => ?_) (fun hc9 => ?_)
    rotate_left
    · refine WP_exit ?_
      show Q1 (.exit 0) _
      exact LA_exit hq1 () (loopR_end hi1 hc9) ⟨k1, hn1, hp1⟩ (Le_sel (ts := [10, 9, 7, 5, 3]) (ids := [13, 12, 11, 10, 9, 8, 7, 6, 5, 4, 0, 1, 2, 3]) (nx := 14) (by kernel_rfl))
    have hc9' := of_decide_eq_true hc9
    have hk1 : k1 < (freeA (⟨b.ships, (rightlyL b (trulyL b bits).1).hear, (rightlyL b (trulyL b bits).1).br, (rightlyL b (trulyL b bits).1).cr, (rightlyL b (trulyL b bits).1).sl, (rightlyL b (trulyL b bits).1).sights⟩ : Book)).1.length := by omega
    refine WP_skip ?_
    refine WP_seq (WP_block ?_)
    have hfi := free_in hk1
    refine WP_seq (WP_draw (by kernel_rfl) (by kernel_rfl) ?_)
    refine WPQ_run tt_ok 4 (by kernel_rfl) ?_
    refine QIX tt_ok (k1 : Int) (freeA (⟨b.ships, (rightlyL b (trulyL b bits).1).hear, (rightlyL b (trulyL b bits).1).br, (rightlyL b (trulyL b bits).1).cr, (rightlyL b (trulyL b bits).1).sl, (rightlyL b (trulyL b bits).1).sights⟩ : Book)).1.length [] (by kernel_rfl) (fun hG => ⟨by omega, by omega⟩) ?_
    refine WPQ_run tt_ok 1 (by kernel_rfl) ?_
    refine QCALL 34 [.g [.ref 0, .int .i64 (rightlyL b (trulyL b bits).1).hear.lo, .int .i64 (rightlyL b (trulyL b bits).1).hear.hi, .int .i64 (rightlyL b (trulyL b bits).1).br, .int .i64 (rightlyL b (trulyL b bits).1).cr, .int .i64 (rightlyL b (trulyL b bits).1).sl, .ref 9], .g [.int .i64 (trulyL b bits).1.hear, .ref 6, .ref 7], .s (.int .i64 ((freeA (⟨b.ships, (rightlyL b (trulyL b bits).1).hear, (rightlyL b (trulyL b bits).1).br, (rightlyL b (trulyL b bits).1).cr, (rightlyL b (trulyL b bits).1).sl, (rightlyL b (trulyL b bits).1).sights⟩ : Book)).1.getD k1 0))] (.s (.int .i64 (meetsL (⟨b.ships, (rightlyL b (trulyL b bits).1).hear, (rightlyL b (trulyL b bits).1).br, (rightlyL b (trulyL b bits).1).cr, (rightlyL b (trulyL b bits).1).sl, (rightlyL b (trulyL b bits).1).sights⟩ : Book) (trulyL b bits).1 ((freeA (⟨b.ships, (rightlyL b (trulyL b bits).1).hear, (rightlyL b (trulyL b bits).1).br, (rightlyL b (trulyL b bits).1).cr, (rightlyL b (trulyL b bits).1).sl, (rightlyL b (trulyL b bits).1).sights⟩ : Book)).1.getD k1 0)))) [] (by kernel_rfl) (goes_of (by kernel_rfl)) (by kernel_rfl) (by kernel_rfl) (fun _ nV w h => meetsL_calls (nV 0) (nV 9) (nV 6) (nV 7) (⟨b.ships, (rightlyL b (trulyL b bits).1).hear, (rightlyL b (trulyL b bits).1).br, (rightlyL b (trulyL b bits).1).cr, (rightlyL b (trulyL b bits).1).sl, (rightlyL b (trulyL b bits).1).sights⟩ : Book) (trulyL b bits).1 ((freeA (⟨b.ships, (rightlyL b (trulyL b bits).1).hear, (rightlyL b (trulyL b bits).1).br, (rightlyL b (trulyL b bits).1).cr, (rightlyL b (trulyL b bits).1).sl, (rightlyL b (trulyL b bits).1).sights⟩ : Book)).1.getD k1 0) w (h.reads (id := 0) (kd := .ro) (e := 65) (by kernel_rfl)) (h.reads (id := 9) (kd := .own) (e := 70) (by kernel_rfl)) (h.reads (id := 6) (kd := .ro) (e := 3) (by kernel_rfl)) (h.reads (id := 7) (kd := .ro) (e := 3) (by kernel_rfl)) (by (try dsimp only); first | assumption | omega | exact sound_valid (by assumption)) (by (try dsimp only); first | assumption | omega | exact sound_valid (by assumption)) (by (try dsimp only); first | assumption | omega | exact sound_valid (by assumption)) (by (try dsimp only); first | assumption | omega | exact sound_valid (by assumption))) ?_
    refine WPQ_all tt_ok (by kernel_rfl) ?_
    refine WP_cond (decide ((meetsL (⟨b.ships, (rightlyL b (trulyL b bits).1).hear, (rightlyL b (trulyL b bits).1).br, (rightlyL b (trulyL b bits).1).cr, (rightlyL b (trulyL b bits).1).sl, (rightlyL b (trulyL b bits).1).sights⟩ : Book) (trulyL b bits).1 ((freeA (⟨b.ships, (rightlyL b (trulyL b bits).1).hear, (rightlyL b (trulyL b bits).1).br, (rightlyL b (trulyL b bits).1).cr, (rightlyL b (trulyL b bits).1).sl, (rightlyL b (trulyL b bits).1).sights⟩ : Book)).1.getD k1 0)) ≥ 0)) (by kernel_rfl) (fun hc11 => ?_) (fun hc11 => ?_)
    · have hc11' := of_decide_eq_true hc11
      refine WP_seq (WP_region (WPO_all tt_ok (by kernel_rfl) ?_))
      refine WP_ret ?_
      show Q1 .ret _
      refine LA_ret hq1 ?_
      have he12 := loopR_ret (r := false) hi1 hk1 hc9 (by unfold FairwayTrueL_b1; simp only [hc11, cond_true, cond_false])
      exact ⟨.s (.bool false), by kernel_rfl, fun nV w' h => ⟨by rw [show FairwayTrueL b bits n = false from by unfold FairwayTrueL; simp only [hc2, hc4, hc6, hc8, he12, cond_true, cond_false]]; rfl, h.bel⟩⟩
    have hc11' := of_decide_eq_false hc11
    refine WP_skip ?_
    refine WP_region (WPO_all tt_ok (by kernel_rfl) ?_)
    show Q1 .normal _
    exact LA_go hq1 (ci := IntKind.i64.wrap ((k1 : Int) + 1)) () hk1 (by show _ = ((k1 + 1 : Nat) : Int); rw [wrapI (by omega) (by omega)]; omega) (loopR_go hi1 hk1 hc9 (by unfold FairwayTrueL_b1; simp only [hc11, cond_true, cond_false])) trivial (Le_sel (ts := [25, 22, 10, 9, 7, 5, 3]) (ids := [13, 12, 11, 10, 9, 8, 7, 6, 5, 4, 0, 1, 2, 3]) (nx := 14) (by kernel_rfl))
  intro zz hR1 hP1 s' hl
  refine WP_le hl ?_
  clear hl s'
  refine WP_seq (WP_seq (WP_region (WPO_all tt_ok (by kernel_rfl) ?_)))
  refine WP_cond ((b.ships.length : Int) == 0) (by kernel_rfl) (fun hc14 => ?_) (fun hc14 => ?_)
  · have hc14' := hc14; try simp only [Bool.and_eq_true, Bool.or_eq_true, Bool.and_eq_false_iff, Bool.or_eq_false_iff, Bool.not_eq_true', Bool.not_eq_false', decide_eq_true_eq, decide_eq_false_iff_not, beq_iff_eq, beq_eq_false_iff_ne, bne_iff_ne, bne_eq_false_iff_eq, ne_eq] at hc14'
    refine WP_seq (WP_region (CALL 18 [] (.s (.bool passedL)) [] (by kernel_rfl) (goes_of (by kernel_rfl)) (by kernel_rfl) (by kernel_rfl) (fun _ nV w h => passedL_calls   w (h.ents (3, .pf AsksAt (· = 0)) (fnd_mem (by kernel_rfl))).1 ) ?_))
    refine WPO_all tt_ok (by kernel_rfl) ?_
    refine WP_ret ?_
    exact ⟨.s (.bool passedL), by kernel_rfl, fun nV w' h => ⟨by rw [show FairwayTrueL b bits n = passedL from by unfold FairwayTrueL; simp only [hc2, hc4, hc6, hc8, hR1, hc14, cond_true, cond_false]]; rfl, h.bel⟩⟩
  have hc14' := hc14; try simp only [Bool.and_eq_true, Bool.or_eq_true, Bool.and_eq_false_iff, Bool.or_eq_false_iff, Bool.not_eq_true', Bool.not_eq_false', decide_eq_true_eq, decide_eq_false_iff_not, beq_iff_eq, beq_eq_false_iff_ne, bne_iff_ne, bne_eq_false_iff_eq, ne_eq] at hc14'
  refine WP_skip ?_
  have hmi := modF_in n.1 (b.ships.length : Int) (by omega) (by omega)
  refine WP_seq (WP_region (AIX tt_ok 0 3 [] (by kernel_rfl) (fun hG => ⟨by omega, by omega⟩) ?_))
  refine ARD tt_ok 5 0 1 0 [] 38 [.int .i64 n.1, .int .i64 n.2.1, .int .i64 n.2.2] (.int .i64 n.1) (by kernel_rfl) (by kernel_rfl) (by kernel_rfl) (fun _ => rfl) ?_
  refine WPO_run tt_ok 3 (by kernel_rfl) ?_
  refine CALL 24 [.s (.int .i64 n.1), .s (.int .i64 (b.ships.length : Int))] (.s (.int .i64 (modF n.1 (b.ships.length : Int)))) [] (by kernel_rfl) (goes_of (by kernel_rfl)) (by kernel_rfl) (by kernel_rfl) (fun _ nV w h => modF_calls  n.1 (b.ships.length : Int) w  ) ?_
  refine WPO_all tt_ok (by kernel_rfl) ?_
  refine WP_seq (WP_region (WPO_run tt_ok 3 (by kernel_rfl) ?_))
  refine CALL 35 [.g [.ref 0, .int .i64 (rightlyL b (trulyL b bits).1).hear.lo, .int .i64 (rightlyL b (trulyL b bits).1).hear.hi, .int .i64 (rightlyL b (trulyL b bits).1).br, .int .i64 (rightlyL b (trulyL b bits).1).cr, .int .i64 (rightlyL b (trulyL b bits).1).sl, .ref 9], .s (.int .i64 (modF n.1 (b.ships.length : Int))), .s (.int .i64 (modF n.2.1 201))] (.t [(false, [.int .i64 (nearA (⟨b.ships, (rightlyL b (trulyL b bits).1).hear, (rightlyL b (trulyL b bits).1).br, (rightlyL b (trulyL b bits).1).cr, (rightlyL b (trulyL b bits).1).sl, (rightlyL b (trulyL b bits).1).sights⟩ : Book) (modF n.1 (b.ships.length : Int)) (modF n.2.1 201)).1]), (false, [.int .i64 (nearA (⟨b.ships, (rightlyL b (trulyL b bits).1).hear, (rightlyL b (trulyL b bits).1).br, (rightlyL b (trulyL b bits).1).cr, (rightlyL b (trulyL b bits).1).sl, (rightlyL b (trulyL b bits).1).sights⟩ : Book) (modF n.1 (b.ships.length : Int)) (modF n.2.1 201)).2])]) [] (by kernel_rfl) (goes_of (by kernel_rfl)) (by kernel_rfl) (by kernel_rfl) (fun _ nV w h => nearA_calls (nV 0) (nV 9) (⟨b.ships, (rightlyL b (trulyL b bits).1).hear, (rightlyL b (trulyL b bits).1).br, (rightlyL b (trulyL b bits).1).cr, (rightlyL b (trulyL b bits).1).sl, (rightlyL b (trulyL b bits).1).sights⟩ : Book) (modF n.1 (b.ships.length : Int)) (modF n.2.1 201) w (h.reads (id := 0) (kd := .ro) (e := 65) (by kernel_rfl)) (h.reads (id := 9) (kd := .own) (e := 70) (by kernel_rfl)) (h.ents (3, .pf AsksAt (· = 0)) (fnd_mem (by kernel_rfl))).1 ) ?_
  refine WPO_all tt_ok (by kernel_rfl) ?_
  refine WP_seq (WP_region (WPO_run tt_ok 2 (by kernel_rfl) ?_))
  refine CALL 36 [.g [.ref 0, .int .i64 (rightlyL b (trulyL b bits).1).hear.lo, .int .i64 (rightlyL b (trulyL b bits).1).hear.hi, .int .i64 (rightlyL b (trulyL b bits).1).br, .int .i64 (rightlyL b (trulyL b bits).1).cr, .int .i64 (rightlyL b (trulyL b bits).1).sl, .ref 9], .s (.int .i64 (modF n.1 (b.ships.length : Int)))] (.t [(true, [.int .i64 (whenA (⟨b.ships, (rightlyL b (trulyL b bits).1).hear, (rightlyL b (trulyL b bits).1).br, (rightlyL b (trulyL b bits).1).cr, (rightlyL b (trulyL b bits).1).sl, (rightlyL b (trulyL b bits).1).sights⟩ : Book) (modF n.1 (b.ships.length : Int))).1.lo, .int .i64 (whenA (⟨b.ships, (rightlyL b (trulyL b bits).1).hear, (rightlyL b (trulyL b bits).1).br, (rightlyL b (trulyL b bits).1).cr, (rightlyL b (trulyL b bits).1).sl, (rightlyL b (trulyL b bits).1).sights⟩ : Book) (modF n.1 (b.ships.length : Int))).1.hi]), (false, [.int .i64 (whenA (⟨b.ships, (rightlyL b (trulyL b bits).1).hear, (rightlyL b (trulyL b bits).1).br, (rightlyL b (trulyL b bits).1).cr, (rightlyL b (trulyL b bits).1).sl, (rightlyL b (trulyL b bits).1).sights⟩ : Book) (modF n.1 (b.ships.length : Int))).2])]) [] (by kernel_rfl) (goes_of (by kernel_rfl)) (by kernel_rfl) (by kernel_rfl) (fun _ nV w h => whenA_calls (nV 0) (nV 9) (⟨b.ships, (rightlyL b (trulyL b bits).1).hear, (rightlyL b (trulyL b bits).1).br, (rightlyL b (trulyL b bits).1).cr, (rightlyL b (trulyL b bits).1).sl, (rightlyL b (trulyL b bits).1).sights⟩ : Book) (modF n.1 (b.ships.length : Int)) w (h.reads (id := 0) (kd := .ro) (e := 65) (by kernel_rfl)) (h.reads (id := 9) (kd := .own) (e := 70) (by kernel_rfl)) (h.ents (3, .pf AsksAt (· = 0)) (fnd_mem (by kernel_rfl))).1 ) ?_
  refine WPO_all tt_ok (by kernel_rfl) ?_
  refine WP_seq (WP_seq (WP_region (WPO_run tt_ok 10 (by kernel_rfl) ?_)))
  refine CALL 37 [.g [.ref 0, .int .i64 (rightlyL b (trulyL b bits).1).hear.lo, .int .i64 (rightlyL b (trulyL b bits).1).hear.hi, .int .i64 (rightlyL b (trulyL b bits).1).br, .int .i64 (rightlyL b (trulyL b bits).1).cr, .int .i64 (rightlyL b (trulyL b bits).1).sl, .ref 9], .g [.int .i64 (trulyL b bits).1.hear, .ref 6, .ref 7], .s (.int .i64 (modF n.1 (b.ships.length : Int))), .s (.int .i64 (modF n.2.1 201))] (.s (.bool (nearL (⟨b.ships, (rightlyL b (trulyL b bits).1).hear, (rightlyL b (trulyL b bits).1).br, (rightlyL b (trulyL b bits).1).cr, (rightlyL b (trulyL b bits).1).sl, (rightlyL b (trulyL b bits).1).sights⟩ : Book) (trulyL b bits).1 (modF n.1 (b.ships.length : Int)) (modF n.2.1 201)))) [((nearA (⟨b.ships, (rightlyL b (trulyL b bits).1).hear, (rightlyL b (trulyL b bits).1).br, (rightlyL b (trulyL b bits).1).cr, (rightlyL b (trulyL b bits).1).sl, (rightlyL b (trulyL b bits).1).sights⟩ : Book) (modF n.1 (b.ships.length : Int)) (modF n.2.1 201)).1 == 2, true), ((nearA (⟨b.ships, (rightlyL b (trulyL b bits).1).hear, (rightlyL b (trulyL b bits).1).br, (rightlyL b (trulyL b bits).1).cr, (rightlyL b (trulyL b bits).1).sl, (rightlyL b (trulyL b bits).1).sights⟩ : Book) (modF n.1 (b.ships.length : Int)) (modF n.2.1 201)).2 != 0, false)] (by kernel_rfl) (goes_of (by kernel_rfl)) (by kernel_rfl) (by kernel_rfl) (fun _ nV w h => nearL_calls (nV 0) (nV 9) (nV 6) (nV 7) (⟨b.ships, (rightlyL b (trulyL b bits).1).hear, (rightlyL b (trulyL b bits).1).br, (rightlyL b (trulyL b bits).1).cr, (rightlyL b (trulyL b bits).1).sl, (rightlyL b (trulyL b bits).1).sights⟩ : Book) (trulyL b bits).1 (modF n.1 (b.ships.length : Int)) (modF n.2.1 201) w (h.reads (id := 0) (kd := .ro) (e := 65) (by kernel_rfl)) (h.reads (id := 9) (kd := .own) (e := 70) (by kernel_rfl)) (h.reads (id := 6) (kd := .ro) (e := 3) (by kernel_rfl)) (h.reads (id := 7) (kd := .ro) (e := 3) (by kernel_rfl)) (by (try dsimp only); first | assumption | omega | exact sound_valid (by assumption)) (by (try dsimp only); first | assumption | omega | exact sound_valid (by assumption)) (by (try dsimp only); first | assumption | omega | exact sound_valid (by assumption))) ?_
  refine WPO_run tt_ok 11 (by kernel_rfl) ?_
  refine CALL 37 [.g [.ref 0, .int .i64 (rightlyL b (trulyL b bits).1).hear.lo, .int .i64 (rightlyL b (trulyL b bits).1).hear.hi, .int .i64 (rightlyL b (trulyL b bits).1).br, .int .i64 (rightlyL b (trulyL b bits).1).cr, .int .i64 (rightlyL b (trulyL b bits).1).sl, .ref 9], .g [.int .i64 (trulyL b bits).1.hear, .ref 6, .ref 7], .s (.int .i64 (modF n.1 (b.ships.length : Int))), .s (.int .i64 (modF n.2.1 201))] (.s (.bool (nearL (⟨b.ships, (rightlyL b (trulyL b bits).1).hear, (rightlyL b (trulyL b bits).1).br, (rightlyL b (trulyL b bits).1).cr, (rightlyL b (trulyL b bits).1).sl, (rightlyL b (trulyL b bits).1).sights⟩ : Book) (trulyL b bits).1 (modF n.1 (b.ships.length : Int)) (modF n.2.1 201)))) [((nearA (⟨b.ships, (rightlyL b (trulyL b bits).1).hear, (rightlyL b (trulyL b bits).1).br, (rightlyL b (trulyL b bits).1).cr, (rightlyL b (trulyL b bits).1).sl, (rightlyL b (trulyL b bits).1).sights⟩ : Book) (modF n.1 (b.ships.length : Int)) (modF n.2.1 201)).1 == 0, true), (((nearA (⟨b.ships, (rightlyL b (trulyL b bits).1).hear, (rightlyL b (trulyL b bits).1).br, (rightlyL b (trulyL b bits).1).cr, (rightlyL b (trulyL b bits).1).sl, (rightlyL b (trulyL b bits).1).sights⟩ : Book) (modF n.1 (b.ships.length : Int)) (modF n.2.1 201)).2 != 0) || (((nearA (⟨b.ships, (rightlyL b (trulyL b bits).1).hear, (rightlyL b (trulyL b bits).1).br, (rightlyL b (trulyL b bits).1).cr, (rightlyL b (trulyL b bits).1).sl, (rightlyL b (trulyL b bits).1).sights⟩ : Book) (modF n.1 (b.ships.length : Int)) (modF n.2.1 201)).1 == 2) && (!(nearL (⟨b.ships, (rightlyL b (trulyL b bits).1).hear, (rightlyL b (trulyL b bits).1).br, (rightlyL b (trulyL b bits).1).cr, (rightlyL b (trulyL b bits).1).sl, (rightlyL b (trulyL b bits).1).sights⟩ : Book) (trulyL b bits).1 (modF n.1 (b.ships.length : Int)) (modF n.2.1 201)))), false)] (by kernel_rfl) (goes_of (by kernel_rfl)) (by kernel_rfl) (by kernel_rfl) (fun _ nV w h => nearL_calls (nV 0) (nV 9) (nV 6) (nV 7) (⟨b.ships, (rightlyL b (trulyL b bits).1).hear, (rightlyL b (trulyL b bits).1).br, (rightlyL b (trulyL b bits).1).cr, (rightlyL b (trulyL b bits).1).sl, (rightlyL b (trulyL b bits).1).sights⟩ : Book) (trulyL b bits).1 (modF n.1 (b.ships.length : Int)) (modF n.2.1 201) w (h.reads (id := 0) (kd := .ro) (e := 65) (by kernel_rfl)) (h.reads (id := 9) (kd := .own) (e := 70) (by kernel_rfl)) (h.reads (id := 6) (kd := .ro) (e := 3) (by kernel_rfl)) (h.reads (id := 7) (kd := .ro) (e := 3) (by kernel_rfl)) (by (try dsimp only); first | assumption | omega | exact sound_valid (by assumption)) (by (try dsimp only); first | assumption | omega | exact sound_valid (by assumption)) (by (try dsimp only); first | assumption | omega | exact sound_valid (by assumption))) ?_
  refine WPO_all tt_ok (by kernel_rfl) ?_
  refine WP_cond (((((nearA (⟨b.ships, (rightlyL b (trulyL b bits).1).hear, (rightlyL b (trulyL b bits).1).br, (rightlyL b (trulyL b bits).1).cr, (rightlyL b (trulyL b bits).1).sl, (rightlyL b (trulyL b bits).1).sights⟩ : Book) (modF n.1 (b.ships.length : Int)) (modF n.2.1 201)).2 != 0) || (((nearA (⟨b.ships, (rightlyL b (trulyL b bits).1).hear, (rightlyL b (trulyL b bits).1).br, (rightlyL b (trulyL b bits).1).cr, (rightlyL b (trulyL b bits).1).sl, (rightlyL b (trulyL b bits).1).sights⟩ : Book) (modF n.1 (b.ships.length : Int)) (modF n.2.1 201)).1 == 2) && (!(nearL (⟨b.ships, (rightlyL b (trulyL b bits).1).hear, (rightlyL b (trulyL b bits).1).br, (rightlyL b (trulyL b bits).1).cr, (rightlyL b (trulyL b bits).1).sl, (rightlyL b (trulyL b bits).1).sights⟩ : Book) (trulyL b bits).1 (modF n.1 (b.ships.length : Int)) (modF n.2.1 201))))) || (((nearA (⟨b.ships, (rightlyL b (trulyL b bits).1).hear, (rightlyL b (trulyL b bits).1).br, (rightlyL b (trulyL b bits).1).cr, (rightlyL b (trulyL b bits).1).sl, (rightlyL b (trulyL b bits).1).sights⟩ : Book) (modF n.1 (b.ships.length : Int)) (modF n.2.1 201)).1 == 0) && (nearL (⟨b.ships, (rightlyL b (trulyL b bits).1).hear, (rightlyL b (trulyL b bits).1).br, (rightlyL b (trulyL b bits).1).cr, (rightlyL b (trulyL b bits).1).sl, (rightlyL b (trulyL b bits).1).sights⟩ : Book) (trulyL b bits).1 (modF n.1 (b.ships.length : Int)) (modF n.2.1 201)))) || (((whenA (⟨b.ships, (rightlyL b (trulyL b bits).1).hear, (rightlyL b (trulyL b bits).1).br, (rightlyL b (trulyL b bits).1).cr, (rightlyL b (trulyL b bits).1).sl, (rightlyL b (trulyL b bits).1).sights⟩ : Book) (modF n.1 (b.ships.length : Int))).2 != 0) && ((whenA (⟨b.ships, (rightlyL b (trulyL b bits).1).hear, (rightlyL b (trulyL b bits).1).br, (rightlyL b (trulyL b bits).1).cr, (rightlyL b (trulyL b bits).1).sl, (rightlyL b (trulyL b bits).1).sights⟩ : Book) (modF n.1 (b.ships.length : Int))).2 != 4))) (by kernel_rfl) (fun hc16 => ?_) (fun hc16 => ?_)
  · have hc16' := hc16; try simp only [Bool.and_eq_true, Bool.or_eq_true, Bool.and_eq_false_iff, Bool.or_eq_false_iff, Bool.not_eq_true', Bool.not_eq_false', decide_eq_true_eq, decide_eq_false_iff_not, beq_iff_eq, beq_eq_false_iff_ne, bne_iff_ne, bne_eq_false_iff_eq, ne_eq] at hc16'
    refine WP_seq (WP_region (WPO_all tt_ok (by kernel_rfl) ?_))
    refine WP_ret ?_
    exact ⟨.s (.bool false), by kernel_rfl, fun nV w' h => ⟨by rw [show FairwayTrueL b bits n = false from by unfold FairwayTrueL; simp only [hc2, hc4, hc6, hc8, hR1, hc14, hc16, cond_true, cond_false]]; rfl, h.bel⟩⟩
  have hc16' := hc16; try simp only [Bool.and_eq_true, Bool.or_eq_true, Bool.and_eq_false_iff, Bool.or_eq_false_iff, Bool.not_eq_true', Bool.not_eq_false', decide_eq_true_eq, decide_eq_false_iff_not, beq_iff_eq, beq_eq_false_iff_ne, bne_iff_ne, bne_eq_false_iff_eq, ne_eq] at hc16'
  refine WP_skip ?_
  refine WP_seq (WP_seq (WP_region (WPO_all tt_ok (by kernel_rfl) ?_)))
  refine WP_loopA (ρ := Bool) (FairwayTrueL_c2 b bits n) (FairwayTrueL_b2 b bits n) 201 () (fun k : Nat => (k : Int)) (fun (ci : Int) (zz : Unit) => ⟨259, [(31, [], .s (.int .i64 ci)), (30, [], .s (.int .i64 (whenA (⟨b.ships, (rightlyL b (trulyL b bits).1).hear, (rightlyL b (trulyL b bits).1).br, (rightlyL b (trulyL b bits).1).cr, (rightlyL b (trulyL b bits).1).sl, (rightlyL b (trulyL b bits).1).sights⟩ : Book) (modF n.1 (b.ships.length : Int))).2)), (29, [], .s (.p 14 0)), (26, [], .s (.int .i64 (modF n.1 (b.ships.length : Int)))), (9, [], .s (.p 10 0)), (7, [], .s (.p 8 0))], [(14, .box 24 [.int .i64 (whenA (⟨b.ships, (rightlyL b (trulyL b bits).1).hear, (rightlyL b (trulyL b bits).1).br, (rightlyL b (trulyL b bits).1).cr, (rightlyL b (trulyL b bits).1).sl, (rightlyL b (trulyL b bits).1).sights⟩ : Book) (modF n.1 (b.ships.length : Int))).1.lo, .int .i64 (whenA (⟨b.ships, (rightlyL b (trulyL b bits).1).hear, (rightlyL b (trulyL b bits).1).br, (rightlyL b (trulyL b bits).1).cr, (rightlyL b (trulyL b bits).1).sl, (rightlyL b (trulyL b bits).1).sights⟩ : Book) (modF n.1 (b.ships.length : Int))).1.hi]), (13, .sl .ro 3 1 (freeA (⟨b.ships, (rightlyL b (trulyL b bits).1).hear, (rightlyL b (trulyL b bits).1).br, (rightlyL b (trulyL b bits).1).cr, (rightlyL b (trulyL b bits).1).sl, (rightlyL b (trulyL b bits).1).sights⟩ : Book)).1 encI 0), (12, .box 24 [.int .i64 (hearA (⟨b.ships, (rightlyL b (trulyL b bits).1).hear, (rightlyL b (trulyL b bits).1).br, (rightlyL b (trulyL b bits).1).cr, (rightlyL b (trulyL b bits).1).sl, (rightlyL b (trulyL b bits).1).sights⟩ : Book)).1.lo, .int .i64 (hearA (⟨b.ships, (rightlyL b (trulyL b bits).1).hear, (rightlyL b (trulyL b bits).1).br, (rightlyL b (trulyL b bits).1).cr, (rightlyL b (trulyL b bits).1).sl, (rightlyL b (trulyL b bits).1).sights⟩ : Book)).1.hi]), (11, .sl .ro 3 1 (wrongA (⟨b.ships, (rightlyL b (trulyL b bits).1).hear, (rightlyL b (trulyL b bits).1).br, (rightlyL b (trulyL b bits).1).cr, (rightlyL b (trulyL b bits).1).sl, (rightlyL b (trulyL b bits).1).sights⟩ : Book)).1 encI 0), (10, .box 27 [.ref 0, .int .i64 (rightlyL b (trulyL b bits).1).hear.lo, .int .i64 (rightlyL b (trulyL b bits).1).hear.hi, .int .i64 (rightlyL b (trulyL b bits).1).br, .int .i64 (rightlyL b (trulyL b bits).1).cr, .int .i64 (rightlyL b (trulyL b bits).1).sl, .ref 9]), (9, .sl .own 70 4 (rightlyL b (trulyL b bits).1).sights encSight zSight), (8, .box 40 [.int .i64 (trulyL b bits).1.hear, .ref 6, .ref 7]), (7, .sl .ro 3 1 (trulyL b bits).1.speed encI 0), (6, .sl .ro 3 1 (trulyL b bits).1.away encI 0), (5, .box 38 [.int .i64 n.1, .int .i64 n.2.1, .int .i64 n.2.2]), (4, .box 27 [.ref 0, .int .i64 b.hear.lo, .int .i64 b.hear.hi, .int .i64 b.br, .int .i64 b.cr, .int .i64 b.sl, .ref 1]), (0, .sl .ro 65 5 b.ships encShip zShip), (1, .sl .ro 70 4 b.sights encSight zSight), (2, .sl .ro 3 1 bits encI 0), (3, .pf AsksAt (· = 0))], 15, []⟩) (fun zz : Unit => ⟨259, [], [(14, .box 24 [.int .i64 (whenA (⟨b.ships, (rightlyL b (trulyL b bits).1).hear, (rightlyL b (trulyL b bits).1).br, (rightlyL b (trulyL b bits).1).cr, (rightlyL b (trulyL b bits).1).sl, (rightlyL b (trulyL b bits).1).sights⟩ : Book) (modF n.1 (b.ships.length : Int))).1.lo, .int .i64 (whenA (⟨b.ships, (rightlyL b (trulyL b bits).1).hear, (rightlyL b (trulyL b bits).1).br, (rightlyL b (trulyL b bits).1).cr, (rightlyL b (trulyL b bits).1).sl, (rightlyL b (trulyL b bits).1).sights⟩ : Book) (modF n.1 (b.ships.length : Int))).1.hi]), (13, .sl .ro 3 1 (freeA (⟨b.ships, (rightlyL b (trulyL b bits).1).hear, (rightlyL b (trulyL b bits).1).br, (rightlyL b (trulyL b bits).1).cr, (rightlyL b (trulyL b bits).1).sl, (rightlyL b (trulyL b bits).1).sights⟩ : Book)).1 encI 0), (12, .box 24 [.int .i64 (hearA (⟨b.ships, (rightlyL b (trulyL b bits).1).hear, (rightlyL b (trulyL b bits).1).br, (rightlyL b (trulyL b bits).1).cr, (rightlyL b (trulyL b bits).1).sl, (rightlyL b (trulyL b bits).1).sights⟩ : Book)).1.lo, .int .i64 (hearA (⟨b.ships, (rightlyL b (trulyL b bits).1).hear, (rightlyL b (trulyL b bits).1).br, (rightlyL b (trulyL b bits).1).cr, (rightlyL b (trulyL b bits).1).sl, (rightlyL b (trulyL b bits).1).sights⟩ : Book)).1.hi]), (11, .sl .ro 3 1 (wrongA (⟨b.ships, (rightlyL b (trulyL b bits).1).hear, (rightlyL b (trulyL b bits).1).br, (rightlyL b (trulyL b bits).1).cr, (rightlyL b (trulyL b bits).1).sl, (rightlyL b (trulyL b bits).1).sights⟩ : Book)).1 encI 0), (10, .box 27 [.ref 0, .int .i64 (rightlyL b (trulyL b bits).1).hear.lo, .int .i64 (rightlyL b (trulyL b bits).1).hear.hi, .int .i64 (rightlyL b (trulyL b bits).1).br, .int .i64 (rightlyL b (trulyL b bits).1).cr, .int .i64 (rightlyL b (trulyL b bits).1).sl, .ref 9]), (9, .sl .own 70 4 (rightlyL b (trulyL b bits).1).sights encSight zSight), (8, .box 40 [.int .i64 (trulyL b bits).1.hear, .ref 6, .ref 7]), (7, .sl .ro 3 1 (trulyL b bits).1.speed encI 0), (6, .sl .ro 3 1 (trulyL b bits).1.away encI 0), (5, .box 38 [.int .i64 n.1, .int .i64 n.2.1, .int .i64 n.2.2]), (4, .box 27 [.ref 0, .int .i64 b.hear.lo, .int .i64 b.hear.hi, .int .i64 b.br, .int .i64 b.cr, .int .i64 b.sl, .ref 1]), (0, .sl .ro 65 5 b.ships encShip zShip), (1, .sl .ro 70 4 b.sights encSight zSight), (2, .sl .ro 3 1 bits encI 0), (3, .pf AsksAt (· = 0))], 15, []⟩) (fun k zz => True) trivial ⟨0, rfl, Le_sel (ts := [31, 30, 29, 26, 9, 7]) (ids := [14, 13, 12, 11, 10, 9, 8, 7, 6, 5, 4, 0, 1, 2, 3]) (nx := 15) (by kernel_rfl)⟩ ?_ ?_
  · intro k2 zz hn2 hp2 hi2 Q2 hq2 ho2
    refine WP_seq (WP_seq (WP_region (WPO_all tt_ok (by kernel_rfl) ?_)))
    refine WP_cond (decide ((k2 : Int) ≤ 200)) (by kernel_rfl) (fun hc17 => ?_) (fun hc17 => ?_)
    rotate_left
    · refine WP_exit ?_
      show Q2 (.exit 2) _
      exact LA_exit hq2 () (loopR_end hi2 hc17) ⟨k2, hn2, hp2⟩ (Le_sel (ts := []) (ids := [14, 13, 12, 11, 10, 9, 8, 7, 6, 5, 4, 0, 1, 2, 3]) (nx := 15) (by kernel_rfl))
    have hc17' := of_decide_eq_true hc17
    have hk2 : k2 < 201 := by omega
    refine WP_skip ?_
    refine WP_seq (WP_block ?_)
    refine WP_seq (WP_region (WPO_run tt_ok 4 (by kernel_rfl) ?_))
    refine CALL 37 [.g [.ref 0, .int .i64 (rightlyL b (trulyL b bits).1).hear.lo, .int .i64 (rightlyL b (trulyL b bits).1).hear.hi, .int .i64 (rightlyL b (trulyL b bits).1).br, .int .i64 (rightlyL b (trulyL b bits).1).cr, .int .i64 (rightlyL b (trulyL b bits).1).sl, .ref 9], .g [.int .i64 (trulyL b bits).1.hear, .ref 6, .ref 7], .s (.int .i64 (modF n.1 (b.ships.length : Int))), .s (.int .i64 (k2 : Int))] (.s (.bool (nearL (⟨b.ships, (rightlyL b (trulyL b bits).1).hear, (rightlyL b (trulyL b bits).1).br, (rightlyL b (trulyL b bits).1).cr, (rightlyL b (trulyL b bits).1).sl, (rightlyL b (trulyL b bits).1).sights⟩ : Book) (trulyL b bits).1 (modF n.1 (b.ships.length : Int)) (k2 : Int)))) [] (by kernel_rfl) (goes_of (by kernel_rfl)) (by kernel_rfl) (by kernel_rfl) (fun _ nV w h => nearL_calls (nV 0) (nV 9) (nV 6) (nV 7) (⟨b.ships, (rightlyL b (trulyL b bits).1).hear, (rightlyL b (trulyL b bits).1).br, (rightlyL b (trulyL b bits).1).cr, (rightlyL b (trulyL b bits).1).sl, (rightlyL b (trulyL b bits).1).sights⟩ : Book) (trulyL b bits).1 (modF n.1 (b.ships.length : Int)) (k2 : Int) w (h.reads (id := 0) (kd := .ro) (e := 65) (by kernel_rfl)) (h.reads (id := 9) (kd := .own) (e := 70) (by kernel_rfl)) (h.reads (id := 6) (kd := .ro) (e := 3) (by kernel_rfl)) (h.reads (id := 7) (kd := .ro) (e := 3) (by kernel_rfl)) (by (try dsimp only); first | assumption | omega | exact sound_valid (by assumption)) (by (try dsimp only); first | assumption | omega | exact sound_valid (by assumption)) (by (try dsimp only); first | assumption | omega | exact sound_valid (by assumption))) ?_
    refine WPO_run tt_ok 6 (by kernel_rfl) ?_
    refine CALL 31 [.g [.int .i64 (whenA (⟨b.ships, (rightlyL b (trulyL b bits).1).hear, (rightlyL b (trulyL b bits).1).br, (rightlyL b (trulyL b bits).1).cr, (rightlyL b (trulyL b bits).1).sl, (rightlyL b (trulyL b bits).1).sights⟩ : Book) (modF n.1 (b.ships.length : Int))).1.lo, .int .i64 (whenA (⟨b.ships, (rightlyL b (trulyL b bits).1).hear, (rightlyL b (trulyL b bits).1).br, (rightlyL b (trulyL b bits).1).cr, (rightlyL b (trulyL b bits).1).sl, (rightlyL b (trulyL b bits).1).sights⟩ : Book) (modF n.1 (b.ships.length : Int))).1.hi], .s (.int .i64 (k2 : Int))] (.s (.bool (containsF (whenA (⟨b.ships, (rightlyL b (trulyL b bits).1).hear, (rightlyL b (trulyL b bits).1).br, (rightlyL b (trulyL b bits).1).cr, (rightlyL b (trulyL b bits).1).sl, (rightlyL b (trulyL b bits).1).sights⟩ : Book) (modF n.1 (b.ships.length : Int))).1 (k2 : Int)))) [((whenA (⟨b.ships, (rightlyL b (trulyL b bits).1).hear, (rightlyL b (trulyL b bits).1).br, (rightlyL b (trulyL b bits).1).cr, (rightlyL b (trulyL b bits).1).sl, (rightlyL b (trulyL b bits).1).sights⟩ : Book) (modF n.1 (b.ships.length : Int))).2 != 0, false), ((nearL (⟨b.ships, (rightlyL b (trulyL b bits).1).hear, (rightlyL b (trulyL b bits).1).br, (rightlyL b (trulyL b bits).1).cr, (rightlyL b (trulyL b bits).1).sl, (rightlyL b (trulyL b bits).1).sights⟩ : Book) (trulyL b bits).1 (modF n.1 (b.ships.length : Int)) (k2 : Int)), true)] (by kernel_rfl) (goes_of (by kernel_rfl)) (by kernel_rfl) (by kernel_rfl) (fun _ nV w h => containsF_calls  (whenA (⟨b.ships, (rightlyL b (trulyL b bits).1).hear, (rightlyL b (trulyL b bits).1).br, (rightlyL b (trulyL b bits).1).cr, (rightlyL b (trulyL b bits).1).sl, (rightlyL b (trulyL b bits).1).sights⟩ : Book) (modF n.1 (b.ships.length : Int))).1 (k2 : Int) w  ) ?_
    refine WPO_all tt_ok (by kernel_rfl) ?_
    refine WP_cond ((nearL (⟨b.ships, (rightlyL b (trulyL b bits).1).hear, (rightlyL b (trulyL b bits).1).br, (rightlyL b (trulyL b bits).1).cr, (rightlyL b (trulyL b bits).1).sl, (rightlyL b (trulyL b bits).1).sights⟩ : Book) (trulyL b bits).1 (modF n.1 (b.ships.length : Int)) (k2 : Int)) && (((whenA (⟨b.ships, (rightlyL b (trulyL b bits).1).hear, (rightlyL b (trulyL b bits).1).br, (rightlyL b (trulyL b bits).1).cr, (rightlyL b (trulyL b bits).1).sl, (rightlyL b (trulyL b bits).1).sights⟩ : Book) (modF n.1 (b.ships.length : Int))).2 != 0) || (!(containsF (whenA (⟨b.ships, (rightlyL b (trulyL b bits).1).hear, (rightlyL b (trulyL b bits).1).br, (rightlyL b (trulyL b bits).1).cr, (rightlyL b (trulyL b bits).1).sl, (rightlyL b (trulyL b bits).1).sights⟩ : Book) (modF n.1 (b.ships.length : Int))).1 (k2 : Int))))) (by kernel_rfl) (fun hc19 => ?_) (fun hc19 => ?_)
    · have hc19' := hc19; try simp only [Bool.and_eq_true, Bool.or_eq_true, Bool.and_eq_false_iff, Bool.or_eq_false_iff, Bool.not_eq_true', Bool.not_eq_false', decide_eq_true_eq, decide_eq_false_iff_not, beq_iff_eq, beq_eq_false_iff_ne, bne_iff_ne, bne_eq_false_iff_eq, ne_eq] at hc19'
      refine WP_seq (WP_region (WPO_all tt_ok (by kernel_rfl) ?_))
      refine WP_ret ?_
      show Q2 .ret _
      refine LA_ret hq2 ?_
      have he20 := loopR_ret (r := false) hi2 hk2 hc17 (by unfold FairwayTrueL_b2; simp only [hc19, cond_true, cond_false])
      exact ⟨.s (.bool false), by kernel_rfl, fun nV w' h => ⟨by rw [show FairwayTrueL b bits n = false from by unfold FairwayTrueL; simp only [hc2, hc4, hc6, hc8, hR1, hc14, hc16, he20, cond_true, cond_false]]; rfl, h.bel⟩⟩
    have hc19' := hc19; try simp only [Bool.and_eq_true, Bool.or_eq_true, Bool.and_eq_false_iff, Bool.or_eq_false_iff, Bool.not_eq_true', Bool.not_eq_false', decide_eq_true_eq, decide_eq_false_iff_not, beq_iff_eq, beq_eq_false_iff_ne, bne_iff_ne, bne_eq_false_iff_eq, ne_eq] at hc19'
    refine WP_skip ?_
    refine WP_region (WPO_all tt_ok (by kernel_rfl) ?_)
    show Q2 .normal _
    exact LA_go hq2 (ci := IntKind.i64.wrap ((k2 : Int) + 1)) () hk2 (by show _ = ((k2 + 1 : Nat) : Int); rw [wrapI (by omega) (by omega)]; omega) (loopR_go hi2 hk2 hc17 (by unfold FairwayTrueL_b2; simp only [hc19, cond_true, cond_false])) trivial (Le_sel (ts := [31, 30, 29, 26, 9, 7]) (ids := [14, 13, 12, 11, 10, 9, 8, 7, 6, 5, 4, 0, 1, 2, 3]) (nx := 15) (by kernel_rfl))
  intro zz hR2 hP2 s' hl
  refine WP_le hl ?_
  clear hl s'
  refine WP_seq (WP_region (CALL 18 [] (.s (.bool passedL)) [] (by kernel_rfl) (goes_of (by kernel_rfl)) (by kernel_rfl) (by kernel_rfl) (fun _ nV w h => passedL_calls   w (h.ents (3, .pf AsksAt (· = 0)) (fnd_mem (by kernel_rfl))).1 ) ?_))
  refine WPO_all tt_ok (by kernel_rfl) ?_
  refine WP_ret ?_
  exact ⟨.s (.bool passedL), by kernel_rfl, fun nV w' h => ⟨by rw [show FairwayTrueL b bits n = passedL from by unfold FairwayTrueL; simp only [hc2, hc4, hc6, hc8, hR1, hc14, hc16, hR2, cond_true, cond_false]]; rfl, h.bel⟩⟩
end Go.Proofs.YtamimgmoomcipaaDoor.Lw
namespace Go.Proofs.YtamimgmoomcipaaDoor.Lw
open Go Go.Proofs.YtamimgmoomcipaaDoor.Eng Go.Proofs.YtamimgmoomcipaaDoor.Fw Go.Proofs.YtamimgmoomcipaaDoor.Rf
set_option linter.unusedVariables false
set_option linter.unusedSimpArgs false
abbrev wayK (k : Known) (p : Nat) : Int × Int := (k.away.getD p 0, k.speed.getD p 0)
structure Told (b : Book) (k : Known) : Prop where
  truth : Truth b k
  way : ∀ p, p < b.ships.length → wayK k p ∈ coursesF b p []
section
variable {b : Book} {k : Known}
theorem told_true (h : Told b k) : isTrueF b [] = true := true_iff.2 fun p hp => ⟨_, h.way p hp⟩
theorem truth_X {l : List Sight} (h : Truth b k) : Truth (bookX b l) k := ⟨h.hear, h.la, h.ls, h.away, h.speed⟩
theorem rightly_told (hv : Valid b) (h : Truth b k) : Told (bookX b (rightlyL b k).sights) k := by
  have hvx := rightly_valid hv h
  refine ⟨truth_X h, fun p hp => (mem_coursesF hvx hp).2 ⟨?_, h.speed p hp, ?_⟩⟩
  · have := h.away p hp
    exact ⟨this.1, this.2.1, Int.le_trans this.2.2 h.hear.2⟩
  · refine List.all_eq_true.2 fun j hj => ?_
    have hj' : j < (rightlyL b k).sights.length := List.mem_range.1 hj
    have hx := rightly_sight hv h (getD_mem (z := zSight) hj')
    unfold sightF
    simp only
    generalize (rightlyL b k).sights.getD j zSight = x at hx ⊢
    obtain ⟨h1, h2, h3, h4⟩ := hx
    cases hs : (x.ship == (p : Int))
    · rfl
    · have e := eq_of_beq hs
      have e2 : x.ship.toNat = p := by omega
      rw [e2] at h4
      have haw : awayF (bookX b (rightlyL b k).sights) p (wayK k p).1 (wayK k p).2 x.m = awayF b p (wayK k p).1 (wayK k p).2 x.m := rfl
      rw [haw, ← h4]
      unfold withinF
      rw [decide_eq_true (Int.le_refl _), decide_eq_true h2.2.1]; simp
theorem near_way (hv : Valid b) (h : Told b k) {p : Nat} (hp : p < b.ships.length) {m : Nat} (hm : m ≤ 900) : nearL b k p m = nearF b p (wayK k p).1 (wayK k p).2 m := nearL_eq hv h.truth hp hm
theorem way_can (h : Told b k) {p : Nat} (hp : p < b.ships.length) {m : Nat} (hn : nearF b p (wayK k p).1 (wayK k p).2 m = true) : canN b p m = true := List.any_eq_true.2 ⟨_, h.way p hp, hn⟩
theorem way_must (h : Told b k) {p : Nat} (hp : p < b.ships.length) {m : Nat} (hn : mustN b p m = true) : nearF b p (wayK k p).1 (wayK k p).2 m = true := List.all_eq_true.1 hn _ (h.way p hp)
def mtQ (b : Book) (k : Known) (begin : Nat) : Option Nat := (List.range (b.cr + b.sl).toNat).find? fun q => (List.range b.ships.length).any fun p => nearF b p (wayK k p).1 (wayK k p).2 (begin + q)
theorem meetsL_eq (hv : Valid b) (h : Told b k) {begin : Nat} (hb : begin ≤ 60) : meetsL b k begin = match mtQ b k begin with | some q => (begin : Int) + q | none => -1 := by
  have h1 := hv.cr
  have h2 := hv.sl
  unfold meetsL
  have hw : IntKind.i64.wrap (IntKind.i64.wrap ((begin : Int) + b.cr) + b.sl) = begin + b.cr + b.sl := by rw [wrapI (x := (begin : Int) + b.cr) (by omega) (by omega), wrapI (by omega) (by omega)]
  rw [loopR_find (fun q => (List.range b.ships.length).any fun p => nearF b p (wayK k p).1 (wayK k p).2 (begin + q)) (fun q => (begin : Int) + q) (fun q hq => by simp only [meetsL_c1]; rw [hw] at hq ⊢; rw [decide_eq_true]; omega) (fun q hq => by
    rw [hw] at hq
    simp only [meetsL_b1]
    rw [loopR_find (fun p => nearF b p (wayK k p).1 (wayK k p).2 (begin + q)) (fun p => (begin : Int) + q) (fun p hp => by simp only [meetsL_c2]; rw [decide_eq_true]; omega) (fun p hp => by
      simp only [meetsL_b2]
      rw [show (begin : Int) + (q : Int) = ((begin + q : Nat) : Int) by omega, near_way hv h hp (by omega)])]
    rw [← find_any]
    cases (List.range b.ships.length).find? _ <;> rfl)]
  rw [hw]
  unfold mtQ
  rw [show ((begin : Int) + b.cr + b.sl - (begin : Int)).toNat = (b.cr + b.sl).toNat by omega]
  cases (List.range (b.cr + b.sl).toNat).find? _ <;> rfl
theorem mt_none {m : Nat} : mtQ b k m = none ↔ ∀ q, q < (b.cr + b.sl).toNat → ∀ p, p < b.ships.length → nearF b p (wayK k p).1 (wayK k p).2 (m + q) = false := by
  unfold mtQ
  rw [List.find?_eq_none]
  constructor
  · intro h q hq p hp
    rw [Bool.eq_false_iff]
    exact fun hn => h q (List.mem_range.2 hq) (List.any_eq_true.2 ⟨p, List.mem_range.2 hp, hn⟩)
  · intro h q hq hn
    obtain ⟨p, hp, hn⟩ := List.any_eq_true.1 hn
    rw [h q (List.mem_range.1 hq) p (List.mem_range.1 hp)] at hn; cases hn
theorem mt_some {m q : Nat} (h : mtQ b k m = some q) : q < (b.cr + b.sl).toNat ∧ ∃ p, p < b.ships.length ∧ nearF b p (wayK k p).1 (wayK k p).2 (m + q) = true := by
  unfold mtQ at h
  obtain ⟨p, hp, hn⟩ := List.any_eq_true.1 (List.find?_some (p := fun q => (List.range b.ships.length).any fun p => nearF b p (wayK k p).1 (wayK k p).2 (m + q)) h)
  exact ⟨List.mem_range.1 (List.mem_of_find?_eq_some h), p, List.mem_range.1 hp, hn⟩
theorem clear_two (hv : Valid b) (h : Told b k) {m : Nat} (hc : clearF b [] m = 2) : mtQ b k m = none := by
  rw [clearF_eq hv (told_true h), Int.toNat_natCast] at hc
  rw [mt_none]
  intro q hq p hp
  rw [Bool.eq_false_iff]
  intro hn
  split at hc
  · rename_i ha
    have := List.all_eq_true.1 ha p (List.mem_range.2 hp)
    rw [some_iff.2 ⟨q, hq, way_can h hp hn⟩] at this; cases this
  · split at hc <;> omega
theorem clear_zero (hv : Valid b) (h : Told b k) {m : Nat} (hc : clearF b [] m = 0) : mtQ b k m ≠ none := by
  rw [clearF_eq hv (told_true h), Int.toNat_natCast] at hc
  rw [Ne, mt_none]
  intro hno
  split at hc
  · omega
  · split at hc
    · omega
    · rename_i _ ha
      apply ha
      refine List.all_eq_true.2 fun p hp => ?_
      cases he : eachF b [] p m (b.cr + b.sl).toNat
      · rfl
      · obtain ⟨q, hq, hn⟩ := List.any_eq_true.1 (List.all_eq_true.1 he _ (h.way p (List.mem_range.1 hp)))
        rw [hno q (List.mem_range.1 hq) p (List.mem_range.1 hp)] at hn; cases hn
theorem clear_in (hv : Valid b) (ht : isTrueF b [] = true) (m : Int) : 0 ≤ clearF b [] m ∧ clearF b [] m ≤ 2 := by
  rw [clearF_eq hv ht]
  split
  · omega
  · split <;> omega
theorem may_clear (hv : Valid b) (ht : isTrueF b [] = true) (m : Int) : mayQ b m = none ↔ clearF b [] m = 2 := by
  rw [clearF_eq hv ht, may_none]
  constructor
  · intro h; rw [if_pos h]
  · intro h
    split at h
    · assumption
    · split at h <;> omega
end
theorem setsL_head (n : Nat) : ∃ r, setsL n = [] :: r := by
  unfold setsL
  rw [List.range_succ_eq_map]
  exact ⟨_, rfl⟩
theorem wrongA_T {b : Book} (hv : Valid b) (ht : isTrueF b [] = true) : wrongA b = ([], 0) := by
  rw [wrongA_eq, if_pos (check_valid.2 hv)]
  obtain ⟨r, hr⟩ := setsL_head b.sights.length
  rw [hr, List.find?_cons, ht]
def mayV (b : Book) (m : Int) : Int × Int := match mayQ b m with | some q => (m + q, 0) | none => (0, 4)
theorem mayA_V {b : Book} (hv : Valid b) (ht : isTrueF b [] = true) {m : Int} (h0 : 0 ≤ m) (h1 : m ≤ 60) : mayA b m = mayV b m := by
  rw [mayA_T hv ht h0 h1]
  unfold mayV
  cases mayQ b m <;> rfl
theorem FairwayTrue_true (b : Book) (bits : List Int) (n : Int × Int × Int) (hl : (b.ships.length : Int) ≤ 9223372036854775807) : FairwayTrueL b bits n = true := by
  unfold FairwayTrueL
  cases hs : soundL b
  · simp [passed_true]
  · have hv := sound_valid hs
    rcases truly_cases hv bits with ⟨hT, h2⟩ | h2
    · simp only [Bool.not_true, cond_false, passed_true, h2]
      have htold := rightly_told hv hT
      have hvx := rightly_valid hv hT
      have hX : (⟨b.ships, (rightlyL b (trulyL b bits).1).hear, (rightlyL b (trulyL b bits).1).br, (rightlyL b (trulyL b bits).1).cr, (rightlyL b (trulyL b bits).1).sl, (rightlyL b (trulyL b bits).1).sights⟩ : Book) = bookX b (rightlyL b (trulyL b bits).1).sights := by rw [rightly_eq]
      have hships : b.ships = (bookX b (rightlyL b (trulyL b bits).1).sights).ships := rfl
      have hm1 := modF_in n.2.1 201 (by omega) (by omega)
      have hm2 := modF_in n.2.2 61 (by omega) (by omega)
      have hc1 : ∀ k1, FairwayTrueL_c1 b bits n k1 () = decide ((k1 : Int) < ((freeA (bookX b (rightlyL b (trulyL b bits).1).sights)).1.length : Int)) := fun k1 => by simp only [FairwayTrueL_c1, hX]
      have hb1 : ∀ k1, FairwayTrueL_b1 b bits n k1 () = (bif decide ((meetsL (bookX b (rightlyL b (trulyL b bits).1).sights) (trulyL b bits).1 ((freeA (bookX b (rightlyL b (trulyL b bits).1).sights)).1.getD k1 0)) ≥ 0) then .ret false else .go ()) := fun k1 => by simp only [FairwayTrueL_b1, hX]
      have hc2 : ∀ k2, FairwayTrueL_c2 b bits n k2 () = decide ((k2 : Int) ≤ 200) := fun k2 => rfl
      have hb2 : ∀ k2, FairwayTrueL_b2 b bits n k2 () = (bif (nearL (bookX b (rightlyL b (trulyL b bits).1).sights) (trulyL b bits).1 (modF n.1 (b.ships.length : Int)) (k2 : Int)) && (((whenA (bookX b (rightlyL b (trulyL b bits).1).sights) (modF n.1 (b.ships.length : Int))).2 != 0) || (!(containsF (whenA (bookX b (rightlyL b (trulyL b bits).1).sights) (modF n.1 (b.ships.length : Int))).1 (k2 : Int)))) then .ret false else .go ()) := fun k2 => by simp only [FairwayTrueL_b2, hX]
      simp only [hX]
      generalize hXX : bookX b (rightlyL b (trulyL b bits).1).sights = X at *
      have hsl : b.ships.length = X.ships.length := by rw [← hXX]
      rw [hsl] at hb2 hl
      rw [hsl]
      clear hX hships hXX
      generalize (trulyL b bits).1 = K at *
      have ht := told_true htold
      have hfr := freeA_T hvx ht
      have hfree : ∀ x ∈ foundF X [] 0, 0 ≤ x ∧ x < 61 := fun x hx => by have := (mem_foundF.1 hx).1; omega
      have hbc := hvx.cr
      have hbl := hvx.sl
      -- what is told of the crossing
      rw [rightA_V hvx, ht, wrongA_T hvx ht, hearA_T hvx ht, clearA_T hvx ht hm2.1 (by omega), mayA_V hvx ht hm2.1 (by omega), hfr]
      have hear1 : containsF (⟨hearLo X X.ships.length, X.hear.hi⟩ : Span) K.hear = true := by
        have h3 : hearLo X X.ships.length ≤ K.hear := (hearLo_le _ _ _).2 ⟨htold.truth.hear.1, fun p hp => (leastC_le hvx hp ⟨_, htold.way p hp⟩).2 ⟨_, htold.way p hp, (htold.truth.away p hp).2.2⟩⟩
        unfold containsF insideF
        rw [decide_eq_true h3, decide_eq_true htold.truth.hear.2]; rfl
      have hcin := clear_in hvx ht (modF n.2.2 61)
      have hci : insideF (clearF X [] (modF n.2.2 61)) 0 2 = true := by
        unfold insideF; rw [decide_eq_true hcin.1, decide_eq_true hcin.2]; rfl
      simp only [bne_self_eq_false, Bool.not_true, Bool.or_false, List.length_nil, hear1, hci, climbs_asc (asc_foundF X 0) hfree (by omega) (by omega), cond_false, show ((0 : Nat) : Int) = 0 from rfl]
      obtain ⟨m, hm⟩ : ∃ m : Nat, modF n.2.2 61 = m := ⟨(modF n.2.2 61).toNat, by omega⟩
      have hmt := meetsL_eq hvx htold (begin := m) (by omega)
      rw [hm] at hcin ⊢
      have hmc := may_clear hvx ht (m : Int)
      have hfirst : (((((clearF X [] (m : Int) == 2) && decide (meetsL X K (m : Int) ≥ 0)) || ((clearF X [] (m : Int) == 0) && decide (meetsL X K (m : Int) < 0))) || (!(((mayV X (m : Int)).2 == 4) == (clearF X [] (m : Int) == 2)))) || ((((mayV X (m : Int)).2 == 0) && decide (meetsL X K (m : Int) ≥ 0)) && decide (meetsL X K (m : Int) < (mayV X (m : Int)).1))) = false := by
        rw [hmt]
        unfold mayV
        have e2 : clearF X [] (m : Int) = 2 → mtQ X K m = none := clear_two hvx htold
        have e0 : clearF X [] (m : Int) = 0 → mtQ X K m ≠ none := clear_zero hvx htold
        cases hq : mayQ X (m : Int) with
        | none =>
          have h2 := hmc.1 hq
          rw [e2 h2, h2]; rfl
        | some r =>
          have h2 : clearF X [] (m : Int) ≠ 2 := fun h => by rw [hmc.2 h] at hq; cases hq
          rw [beq_false_of_ne h2]
          cases hk : mtQ X K m with
          | none =>
            have h0 : clearF X [] (m : Int) ≠ 0 := fun h => e0 h hk
            rw [beq_false_of_ne h0]; simp
          | some q =>
            obtain ⟨hq1, p, hp, hn⟩ := mt_some hk
            have hle : r ≤ q := by
              rcases Nat.lt_or_ge q r with h3 | h3
              · have := (may_some hq).2.2 q h3 p hp
                rw [Int.toNat_natCast] at this
                rw [way_can htold hp hn] at this; cases this
              · exact h3
            simp only
            rw [decide_eq_false (show ¬ ((m : Int) + (q : Int) < 0) by omega), decide_eq_false (show ¬ ((m : Int) + (q : Int) < (m : Int) + (r : Int)) by omega)]
            simp
      rw [hfirst]
      simp only [cond_false]
      -- the minutes that are told to be free
      rw [loopR_find (fun _ => false) (fun _ => false) (fun k hk => by rw [hc1, hfr]; rw [decide_eq_true]; simp only; omega) (fun k hk => by
        rw [hb1, hfr]
        simp only
        have hx := getD_mem (z := 0) hk
        have hx2 := mem_foundF.1 hx
        obtain ⟨y, hy⟩ : ∃ y : Nat, (foundF X [] 0).getD k 0 = y := ⟨((foundF X [] 0).getD k 0).toNat, by omega⟩
        rw [hy] at hx2 ⊢
        rw [meetsL_eq hvx htold (by omega), clear_two hvx htold hx2.2.2]
        rfl)]
      have hnof : (List.range (foundF X [] 0).length).find? (fun _ => false) = none := List.find?_eq_none.2 fun x _ h => by cases h
      rw [hnof]
      simp only
      by_cases h0 : X.ships.length = 0
      · rw [h0]; rfl
      · rw [show ((X.ships.length : Int) == 0) = false from beq_eq_false_iff_ne.2 (by omega)]
        simp only [cond_false]
        have hat := modF_in n.1 (X.ships.length : Int) (by omega) (by omega)
        generalize modF n.1 (X.ships.length : Int) = x at *
        generalize modF n.2.1 201 = mi at *
        obtain ⟨p, rfl⟩ : ∃ p : Nat, x = p := ⟨x.toNat, by omega⟩
        have hp : p < X.ships.length := by omega
        obtain ⟨mi', rfl⟩ : ∃ q : Nat, mi = q := ⟨mi.toNat, by omega⟩
        rw [nearA_T hvx ht hp (by omega) (by omega), whenA_T hvx ht hp, Int.toNat_natCast, near02_one ht hp, near_way hvx htold hp (m := mi') (by omega)]
        have hnear : ((((if mustN X p mi' then (2 : Int) else if canN X p mi' then 1 else 0) == 2) && !(nearF X p (wayK K p).1 (wayK K p).2 mi')) || (((if mustN X p mi' then (2 : Int) else if canN X p mi' then 1 else 0) == 0) && nearF X p (wayK K p).1 (wayK K p).2 mi')) = false := by
          have k1 : mustN X p mi' = true → nearF X p (wayK K p).1 (wayK K p).2 mi' = true := way_must htold hp
          have k2 : nearF X p (wayK K p).1 (wayK K p).2 mi' = true → canN X p mi' = true := way_can htold hp
          revert k1 k2
          generalize mustN X p mi' = A
          generalize canN X p mi' = B
          generalize nearF X p (wayK K p).1 (wayK K p).2 mi' = C
          cases A <;> cases B <;> cases C <;> decide
        simp only [bne_self_eq_false, Bool.false_or]
        rw [hnear]
        have hwn : ((if whenL X p = [] then (zSpan, (4 : Int)) else (⟨(whenL X p).getD 0 0, (whenL X p).getD ((whenL X p).length - 1) 0⟩, 0)).2 != 0 && (if whenL X p = [] then (zSpan, (4 : Int)) else (⟨(whenL X p).getD 0 0, (whenL X p).getD ((whenL X p).length - 1) 0⟩, 0)).2 != 4) = false := by
          by_cases hw : whenL X p = []
          · rw [if_pos hw]; rfl
          · rw [if_neg hw]; rfl
        rw [hwn]
        simp only [Bool.or_false, cond_false]
        rw [loopR_find (N := 201) (c := FairwayTrueL_c2 b bits n) (b := FairwayTrueL_b2 b bits n) (fun _ => false) (fun _ => false) (fun k hk => by rw [hc2]; exact decide_eq_true (show (k : Int) ≤ 200 by omega)) (fun k hk => by
          rw [hb2, near_way hvx htold hp (m := k) (by omega), whenA_T hvx ht hp]
          cases hn : nearF X p (wayK K p).1 (wayK K p).2 k
          · rfl
          · have hmem : (k : Int) ∈ whenL X p := mem_whenL.2 ⟨by omega, by rw [Int.toNat_natCast]; exact way_can htold hp hn⟩
            have hne : whenL X p ≠ [] := List.ne_nil_of_mem hmem
            have hpos := List.length_pos_iff.2 hne
            rw [if_neg hne]
            have h5 := (asc_first (asc_whenL X p) hpos).2 _ hmem
            have h6 := (asc_last (asc_whenL X p) hpos).2 _ hmem
            unfold containsF insideF
            simp only
            rw [decide_eq_true (show (k : Int) ≥ (whenL X p).getD 0 0 from h5), decide_eq_true h6]; rfl)]
        have hno2 : (List.range 201).find? (fun _ => false) = none := List.find?_eq_none.2 fun x _ h => by cases h
        rw [hno2]
    · rw [h2]; simp [passed_true]
end Go.Proofs.YtamimgmoomcipaaDoor.Lw
namespace Go.Proofs.YtamimgmoomcipaaDoor.Lw
open Go Go.ChangeShapes Go.WideShapes Go.RowKit Go.Proofs.YtamimgmoomcipaaDoor.Eng Go.Proofs.YtamimgmoomcipaaDoor.Fw Go.Proofs.YtamimgmoomcipaaDoor.Rf
set_option linter.unusedVariables false
set_option linter.unusedSimpArgs false
set_option maxRecDepth 100000
namespace FairwayTrue
theorem door_met_fairwayTrue (os : Os) (args : Array Value) : laidMetH Tryd.prog Rows.fairwayTrueRow.laid ((World.doorLaid Tryd.prog 14 os).forCall (fun _ _ => 0) ⟨#[], args, []⟩).memory :=
  laidMetH_of_parts3 (fuel := 8) (laidMet_of_run' 8 (by kernel_rfl) (by kernel_rfl)) (by kernel_rfl) (by kernel_rfl)
theorem contract (H : Type) (enc : TypeId × Value → H) (W : World) (base : Nat) (args : Array Value) (ds gs : List (DataW H)) (before : List MemPlace)
    (hval : ∀ (j : Nat) t v, Tryd.f6.params[j]? = some t → args[j]? = some v → Value.okWide Tryd.prog W .any base t v)
    (hW : DataW.Whole enc Tryd.prog Tryd.f6.params.toList Rows.fairwayTrueSpec.vars false W args.toList ds gs before)
    (hsz0 : (DataW.weightsEach Tryd.prog (Tryd.f6.params.toList ++ []) (ds ++ gs)).all (fun x => decide (x ≤ reachBytes)) = true) (hL : laidMetH Tryd.prog Rows.fairwayTrueRow.laid W) (hS : W.ShapedOpen Tryd.prog) :
    Calls Tryd.prog 6 args W fun e W' => ∃ v, e = .returned v ∧ Rows.fairwayTrueSpec.post enc Tryd.prog Tryd.f6 false true false false W args v W' := by
  have hW' := hW
  obtain ⟨p, q, hA0, hV, rfl, hfz, hnd⟩ := hW
  have hA : DataW.TrodAll enc Tryd.prog W 0 (fun _ => true) true Tryd.f6.params.toList args.toList ds p := hA0
  rw [Tryd.params6] at hA hval hsz0
  clear hA0
  obtain ⟨v0, vs0, d0, ds0, p0, q0, hargs, rfl, rfl, h0, r0⟩ := trodAll_cons hA
  obtain ⟨v1, vs1, d1, ds1, p1, q1, rfl, rfl, rfl, h1, r1⟩ := trodAll_cons r0
  obtain ⟨v2, vs2, d2, ds2, p2, q2, rfl, rfl, rfl, h2, r2⟩ := trodAll_cons r1
  obtain ⟨rfl, rfl, rfl⟩ := trodAll_nil r2
  obtain rfl : args = #[v0, v1, v2] := by apply Array.ext'; rw [hargs]
  obtain ⟨rfl, rfl⟩ := trodVars_none hV
  have hsz : (DataW.weightsEach Tryd.prog [27, 37, 38] [d0, d1, d2]).all (fun x => decide (x ≤ reachBytes)) = true := by simpa using hsz0
  have hb0 : Wb Tryd.prog 27 d0 := Bd_each hsz (j := 0) rfl rfl
  obtain ⟨c0, rfl, ⟨g0_0, g0_1, x0, y0, q0_0, q0_1, q0_2, q0_3, q0_4, q0_5, q0_6, _⟩⟩ := arg_agg Tryd.underlying27 (hval 0 27 v0 rfl rfl) h0 hb0 opn27
  rw [agg_of y0] at *
  have hb1 : Wb Tryd.prog 37 d1 := Bd_each hsz (j := 1) rfl rfl
  obtain ⟨x1, q1_0⟩ := arg_slice (φ := fun v => ∃ b : List Int, (Reads W v 1 b encI 0 ∧ (∀ a ∈ b, i64B a) ∧ b.length * 8 ≤ reachBytes)) Tryd.underlying37 (hval 1 37 v1 rfl rfl) h1 hb1 (opn37.mono fun cs ⟨g, b, h1, h2, _⟩ => ⟨g, h1, b, h2⟩)
  have hb2 : Wb Tryd.prog 38 d2 := Bd_each hsz (j := 2) rfl rfl
  obtain ⟨c2, rfl, ⟨x2, y2, q2_0, q2_1, q2_2, _⟩⟩ := arg_arr Tryd.underlying38 (hval 2 38 v2 rfl rfl) h2 hb2 opn38
  rw [agg_of y2] at *
  have ha := asks_of hS hL
  have hc := FairwayTrueL_calls g0_0 g0_1 v1 x0 x1 x2 W q0_0.1 q0_1.1 q1_0.1 ha
  refine hc.mono fun e W' ⟨he, hb⟩ => ?_
  refine ⟨.bool true, he.trans (by rw [FairwayTrue_true x0 x1 x2 (Reads.len q0_0.1)]), law_post laidOut (fun u hu => ?_) hW' rfl (by kernel_rfl) Tryd.underlying4 rfl rfl rfl hb⟩
  have hall : ([27, 37, 38] : List TypeId).all (fun u => Tryd.prog.readableRec u && decide (u < Tryd.prog.types.size)) = true := by kernel_rfl
  have hu' : u ∈ ([27, 37, 38] : List TypeId) := hu
  have := List.all_eq_true.1 hall u hu'
  simp only [Bool.and_eq_true, decide_eq_true_eq] at this
  exact this
theorem reads (os : Os) {H : Type} (enc : TypeId × Value → H) : ∃ places, DataW.whole enc Tryd.prog ((World.doorLaid Tryd.prog 14 os).forCall (fun _ _ => 0) ⟨#[], #[.agg #[.slice none 0 0, .int .i64 0, .int .i64 0, .int .i64 0, .int .i64 0, .int .i64 0, .slice none 0 0], .slice none 0 0, .agg #[.int .i64 0, .int .i64 0, .int .i64 0]], []⟩).memory Tryd.f6.params.toList Rows.fairwayTrueSpec.vars false (#[.agg #[.slice none 0 0, .int .i64 0, .int .i64 0, .int .i64 0, .int .i64 0, .int .i64 0, .slice none 0 0], .slice none 0 0, .agg #[.int .i64 0, .int .i64 0, .int .i64 0]] : Array Value).toList 8 = some ([.agg [.nil, .agg [.lit (.int .i64 0), .lit (.int .i64 0)], .lit (.int .i64 0), .lit (.int .i64 0), .lit (.int .i64 0), .nil], .nil, .agg [.lit (.int .i64 0), .lit (.int .i64 0), .lit (.int .i64 0)]], [], places) :=
  ⟨[], by kernel_rfl⟩
set_option maxRecDepth 100000 in
theorem lifted (os : Os) (started : os.Started) (H : Type) (enc : TypeId × Value → H) (F : Stop.Interp) :
    ReturnsInHanded {} Tryd.checked os 6 .any ((OpenSpec.ofChange Rows.fairwayTrueSpec).preRow enc Tryd.prog Tryd.f6 Rows.fairwayTrueRow.domain false Rows.fairwayTrueRow.laid) (((OpenSpec.ofChange Rows.fairwayTrueSpec).at F).post enc Tryd.prog Tryd.f6 false true false false) := by
  obtain ⟨places, hx⟩ := reads os enc
  refine returnsInHanded_of_row (C := Tryd.checked) (s := OpenSpec.ofChange Rows.fairwayTrueSpec) own started (by kernel_rfl) Tryd.func6
    (witness_row_atRef (enc := enc) (C := Tryd.checked) false (World.doorLaid Tryd.prog 14 os) #[.agg #[.slice none 0 0, .int .i64 0, .int .i64 0, .int .i64 0, .int .i64 0, .int .i64 0, .slice none 0 0], .slice none 0 0, .agg #[.int .i64 0, .int .i64 0, .int .i64 0]] rfl (by kernel_rfl) (by kernel_rfl) (by kernel_rfl)
      (OpenSpec.preRow_of_cond 8 hx (by kernel_rfl) (fun k hk => by cases hk) (by kernel_rfl) (door_met_fairwayTrue os _))) ?_
  intro W base args ds gs before hval hW _ hcond hsz hL hS _
  exact contract H enc W base args ds gs before hval hW hsz hL hS
theorem said : Rows.FairwayTrueSaid :=
  OpenClaim.holds_of_cond 6 Tryd.f6 rfl rfl rfl rfl rfl rfl rfl ⟨rfl, rfl, rfl, rfl, rfl⟩ rfl rfl rfl rfl rfl (by kernel_rfl) Tryd.func6 (by kernel_rfl)
    (of_decide_eq_true (by kernel_rfl)) (by unfold Func.isWrapper; first | (rw [if_pos (by decide +kernel)]; kernel_rfl) | (rw [if_neg (by decide +kernel)]; exact ⟨rfl, rfl⟩))
    (fun os started H enc _ F => by rw [OpenClaim.pre_eq_preRow]; exact lifted os started H enc F)
theorem plain (f : FuncId) (fn : Func) (hf : Tryd.pinned.checked.prog.funcNamed "prow/prowlaw04.FairwayTrue" = some f) (hfn : Tryd.pinned.checked.prog.funcs[f]? = some fn) :
    false = Tryd.pinned.checked.prog.looks [] ∧ ∀ (j : Nat) t, fn.params[j]? = some t → Tryd.pinned.checked.prog.wantsStandIn t = false := by
  obtain rfl : f = 6 := Option.some.inj ((show Tryd.prog.funcNamed "prow/prowlaw04.FairwayTrue" = some 6 by kernel_rfl).symm.trans hf) |>.symm
  obtain rfl : fn = Tryd.f6 := (Option.some.inj (Tryd.func6.symm.trans hfn)).symm
  refine ⟨by kernel_rfl, fun j t ht => ?_⟩
  rw [Tryd.params6] at ht
  have hm : t ∈ ([27, 37, 38] : List TypeId) := by simpa using Array.mem_of_getElem? ht
  have hall : (([27, 37, 38] : List TypeId).all fun u => !Tryd.prog.wantsStandIn u) = true := by kernel_rfl
  exact (show Tryd.prog.wantsStandIn t = false by simpa using List.all_eq_true.1 hall t hm)
theorem card : Rows.FairwayTrueCardSaid :=
  Claim7.holds_tied_plain_at .later [] _ _ _ _ said (fun _ h => by cases h) (by kernel_rfl) (fun _ h => by cases h) fairwayTrue_row_tie rfl ⟨rfl, rfl⟩ (by kernel_rfl) rfl plain (by kernel_rfl)
end FairwayTrue
end Go.Proofs.YtamimgmoomcipaaDoor.Lw
theorem Go.Proofs.YtamimgmoomcipaaDoor.fairwayTrue_holds : Go.Proofs.YtamimgmoomcipaaDoor.Rows.FairwayTrueCardSaid := Go.Proofs.YtamimgmoomcipaaDoor.Lw.FairwayTrue.card
