/-
  DeckMore: for every book and every three numbers the law returns true, and leaves them as they were. Conditions: none but the row's own.
-/
import Derived.Test.YthfnedbpmdkdjaaDoorDeckMoreA3
import Derived.ArgAppend
import Derived.Below
import Derived.Carry
import Derived.ChangeKeysEq
import Derived.ControlIn
import Derived.Deep.DeepHandedRow
import Derived.Deep.DeepWitnessRowRef
import Derived.Deep.Draws
import Derived.Deep.Quiet
import Derived.Deep.Slices
import Derived.KernelRfl
import Derived.LaidMore
import Derived.Laws.AppendOwn
import Derived.Laws.Cells
import Derived.Laws.CopyRow
import Derived.Laws.IdiomRangeMap
import Derived.Laws.OwnMore
import Derived.Laws.Rows
import Derived.MapKept
import Derived.Maps.AppendAt
import Derived.OpenShut
import Derived.OrdersHeld
import Derived.OrdersIn
import Derived.ProofKit
import Derived.RangeFuncLeaves
import Derived.RangeFuncNested
import Derived.RangeFuncOwn
import Derived.SevenTiedAt
import Derived.SizedLaws
import Derived.Stop.Joined
import Derived.Test.YthfnedbpmdkdjaaDoorCards
import Derived.Test.YthfnedbpmdkdjaaDoorProg
import Derived.Test.YthfnedbpmdkdjaaDoorRows
import Derived.Test.YthfnedbpmdkdjaaDoorTie
import Derived.WalkKit
import Derived.WideKeyRuns
namespace Go.Proofs.YthfnedbpmdkdjaaDoor.D
open Go Go.RowKit Go.Proofs.YthfnedbpmdkdjaaDoor.Eng Go.Proofs.YthfnedbpmdkdjaaDoor.Cm
set_option linter.unusedVariables false
set_option linter.unusedSimpArgs false
set_option linter.unusedSectionVars false
def DeckMoreL_c1 (b : DBook) (n : Int × Int × Int) (k1 : Nat) : Unit → Bool := fun _ => decide ((k1 : Int) < ((neverA (⟨b.loads, mn 30 (IntKind.i64.wrap ((IntKind.i64.wrap (b.rule + 1)) + (modF n.2.1 5))), b.most⟩ : DBook)).1.length : Int))
def DeckMoreL_b1 (b : DBook) (n : Int × Int × Int) (k1 : Nat) : Unit → Bd Unit Bool := fun _ => (bif decide ((atF (neverA b).1 ((neverA (⟨b.loads, mn 30 (IntKind.i64.wrap ((IntKind.i64.wrap (b.rule + 1)) + (modF n.2.1 5))), b.most⟩ : DBook)).1.getD k1 0)) < 0) then .ret false else .go ())
def DeckMoreL_c2 (b : DBook) (n : Int × Int × Int) (k2 : Nat) : Unit → Bool := fun _ => decide ((k2 : Int) < ((neverA (⟨b.loads, b.rule, mn 200 (IntKind.i64.wrap ((IntKind.i64.wrap (b.most + 1)) + (modF n.2.1 20)))⟩ : DBook)).1.length : Int))
def DeckMoreL_b2 (b : DBook) (n : Int × Int × Int) (k2 : Nat) : Unit → Bd Unit Bool := fun _ => (bif decide ((atF (neverA b).1 ((neverA (⟨b.loads, b.rule, mn 200 (IntKind.i64.wrap ((IntKind.i64.wrap (b.most + 1)) + (modF n.2.1 20)))⟩ : DBook)).1.getD k2 0)) < 0) then .ret false else .go ())
def DeckMoreL_c3 (b : DBook) (n : Int × Int × Int) (k3 : Nat) : Unit → Bool := fun _ => decide ((k3 : Int) < ((neverA (weighedL b (modF n.2.1 (b.loads.length : Int)) (withF (b.loads.getD (modF n.2.1 (b.loads.length : Int)).toNat zLoad).w n.2.2))).1.length : Int))
def DeckMoreL_b3 (b : DBook) (n : Int × Int × Int) (k3 : Nat) : Unit → Bd Unit Bool := fun _ => (bif decide ((atF (neverA b).1 ((neverA (weighedL b (modF n.2.1 (b.loads.length : Int)) (withF (b.loads.getD (modF n.2.1 (b.loads.length : Int)).toNat zLoad).w n.2.2))).1.getD k3 0)) < 0) then .ret false else .go ())
def DeckMoreL (b : DBook) (n : Int × Int × Int) : Bool :=
  (bif !(soundL b) then stowedL else (bif (modF n.2.2 3) == 0 then (bif ((((mostA b).2 != 0) || ((mostA (⟨b.loads, mn 30 (IntKind.i64.wrap ((IntKind.i64.wrap (b.rule + 1)) + (modF n.2.1 5))), b.most⟩ : DBook)).2 != 0)) || (decide (((mostA (⟨b.loads, mn 30 (IntKind.i64.wrap ((IntKind.i64.wrap (b.rule + 1)) + (modF n.2.1 5))), b.most⟩ : DBook)).1.length : Int) < ((mostA b).1.length : Int)))) || ((canL b (chosenL b n.1)) && (!(canL (⟨b.loads, mn 30 (IntKind.i64.wrap ((IntKind.i64.wrap (b.rule + 1)) + (modF n.2.1 5))), b.most⟩ : DBook) (chosenL b n.1)))) then false else (bif (((neverA b).2 != 0) || ((neverA (⟨b.loads, mn 30 (IntKind.i64.wrap ((IntKind.i64.wrap (b.rule + 1)) + (modF n.2.1 5))), b.most⟩ : DBook)).2 != 0)) || (((fewestA b).2 == 0) && (((fewestA (⟨b.loads, mn 30 (IntKind.i64.wrap ((IntKind.i64.wrap (b.rule + 1)) + (modF n.2.1 5))), b.most⟩ : DBook)).2 != 0) || (decide ((crossingsL (fewestA (⟨b.loads, mn 30 (IntKind.i64.wrap ((IntKind.i64.wrap (b.rule + 1)) + (modF n.2.1 5))), b.most⟩ : DBook)).1) > (crossingsL (fewestA b).1))))) then false else (match loopR (DeckMoreL_c1 b n) (DeckMoreL_b1 b n) (neverA (⟨b.loads, mn 30 (IntKind.i64.wrap ((IntKind.i64.wrap (b.rule + 1)) + (modF n.2.1 5))), b.most⟩ : DBook)).1.length 0 () with | .brk () => stowedL | .ret r => r))) else (bif (modF n.2.2 3) == 1 then (bif ((((mostA b).2 != 0) || ((mostA (⟨b.loads, b.rule, mn 200 (IntKind.i64.wrap ((IntKind.i64.wrap (b.most + 1)) + (modF n.2.1 20)))⟩ : DBook)).2 != 0)) || (decide (((mostA (⟨b.loads, b.rule, mn 200 (IntKind.i64.wrap ((IntKind.i64.wrap (b.most + 1)) + (modF n.2.1 20)))⟩ : DBook)).1.length : Int) < ((mostA b).1.length : Int)))) || ((canL b (chosenL b n.1)) && (!(canL (⟨b.loads, b.rule, mn 200 (IntKind.i64.wrap ((IntKind.i64.wrap (b.most + 1)) + (modF n.2.1 20)))⟩ : DBook) (chosenL b n.1)))) then false else (bif (((neverA b).2 != 0) || ((neverA (⟨b.loads, b.rule, mn 200 (IntKind.i64.wrap ((IntKind.i64.wrap (b.most + 1)) + (modF n.2.1 20)))⟩ : DBook)).2 != 0)) || (((fewestA b).2 == 0) && (((fewestA (⟨b.loads, b.rule, mn 200 (IntKind.i64.wrap ((IntKind.i64.wrap (b.most + 1)) + (modF n.2.1 20)))⟩ : DBook)).2 != 0) || (decide ((crossingsL (fewestA (⟨b.loads, b.rule, mn 200 (IntKind.i64.wrap ((IntKind.i64.wrap (b.most + 1)) + (modF n.2.1 20)))⟩ : DBook)).1) > (crossingsL (fewestA b).1))))) then false else (match loopR (DeckMoreL_c2 b n) (DeckMoreL_b2 b n) (neverA (⟨b.loads, b.rule, mn 200 (IntKind.i64.wrap ((IntKind.i64.wrap (b.most + 1)) + (modF n.2.1 20)))⟩ : DBook)).1.length 0 () with | .brk () => stowedL | .ret r => r))) else (bif ((((mostA b).2 != 0) || ((mostA (weighedL b (modF n.2.1 (b.loads.length : Int)) (withF (b.loads.getD (modF n.2.1 (b.loads.length : Int)).toNat zLoad).w n.2.2))).2 != 0)) || (decide (((mostA (weighedL b (modF n.2.1 (b.loads.length : Int)) (withF (b.loads.getD (modF n.2.1 (b.loads.length : Int)).toNat zLoad).w n.2.2))).1.length : Int) < ((mostA b).1.length : Int)))) || ((canL b (chosenL b n.1)) && (!(canL (weighedL b (modF n.2.1 (b.loads.length : Int)) (withF (b.loads.getD (modF n.2.1 (b.loads.length : Int)).toNat zLoad).w n.2.2)) (chosenL b n.1)))) then false else (bif (((neverA b).2 != 0) || ((neverA (weighedL b (modF n.2.1 (b.loads.length : Int)) (withF (b.loads.getD (modF n.2.1 (b.loads.length : Int)).toNat zLoad).w n.2.2))).2 != 0)) || (((fewestA b).2 == 0) && (((fewestA (weighedL b (modF n.2.1 (b.loads.length : Int)) (withF (b.loads.getD (modF n.2.1 (b.loads.length : Int)).toNat zLoad).w n.2.2))).2 != 0) || (decide ((crossingsL (fewestA (weighedL b (modF n.2.1 (b.loads.length : Int)) (withF (b.loads.getD (modF n.2.1 (b.loads.length : Int)).toNat zLoad).w n.2.2))).1) > (crossingsL (fewestA b).1))))) then false else (match loopR (DeckMoreL_c3 b n) (DeckMoreL_b3 b n) (neverA (weighedL b (modF n.2.1 (b.loads.length : Int)) (withF (b.loads.getD (modF n.2.1 (b.loads.length : Int)).toNat zLoad).w n.2.2))).1.length 0 () with | .brk () => stowedL | .ret r => r))))))
theorem DeckMoreL_calls (g0 : Value) (b : DBook) (n : Int × Int × Int) (w : World) (r0 : Reads w g0 3 b.loads encLoad zLoad) (hnb : NobodyAt w) (hla : LanesAt w) : Calls Tryd.prog 13 #[.agg #[g0, iv b.rule, iv b.most], .agg #[iv n.1, iv n.2.1, iv n.2.2]] w fun e w' => e = .returned (.bool (DeckMoreL b n)) ∧ Below w.heap.size w w' := by
  refine calls_of_WP (cx := cx0 w (vn [g0]) 1) (n := vn [g0]) (vs := [.g [.ref 0, .int .i64 b.rule, .int .i64 b.most], .g [.int .i64 n.1, .int .i64 n.2.1, .int .i64 n.2.2]]) (hp := [(0, .sl .ro 61 3 b.loads encLoad zLoad), (1, .pf NobodyAt (· = 1)), (2, .pf LanesAt (· = 0))]) (nx := 3) tt_ok Tryd.func13 rfl rfl rfl (by kernel_rfl) (HSat_args (vn_one (by simp [r0.one])) (by decide) ⟨⟨⟨fun _ => rfl, by decide, r0⟩, (Nat.le_of_ble_eq_true rfl)⟩, ⟨⟨hnb, fun w1 w2 h1 hw => (hw 1 rfl).trans h1, fun g hg => by cases hg; exact (Array.getElem?_eq_some_iff.1 hnb).1⟩, (Nat.le_of_ble_eq_true rfl)⟩, ⟨⟨hla, fun w1 w2 h1 hw => (hw 0 rfl).trans h1, fun g hg => by cases hg; exact (Array.getElem?_eq_some_iff.1 hla).1⟩, (Nat.le_of_ble_eq_true rfl)⟩, trivial⟩) (vsOk (by kernel_rfl)) ?_
  have hl0 := Reads.len r0
  refine WP_seq (WP_region (WPO_all tt_ok (by kernel_rfl) ?_))
  refine WP_seq (WP_seq (WP_region (WPO_run tt_ok 1 (by kernel_rfl) ?_)))
  refine CALL 26 [.g [.ref 0, .int .i64 b.rule, .int .i64 b.most]] (.s (.bool (soundL b))) [] (by kernel_rfl) (goes_of (by kernel_rfl)) (by kernel_rfl) (by kernel_rfl) (fun hG nV w h => soundL_calls (nV 0) b w (h.reads (id := 0) (kd := .ro) (e := 61) (by kernel_rfl)) ) ?_
  refine WPO_all tt_ok (by kernel_rfl) ?_
  refine WP_cond (!(soundL b)) (by kernel_rfl) (fun hc2 => ?_) (fun hc2 => ?_)
  · have hc2' := hc2; try simp only [Bool.and_eq_true, Bool.or_eq_true, Bool.and_eq_false_iff, Bool.or_eq_false_iff, Bool.not_eq_true', Bool.not_eq_false', decide_eq_true_eq, decide_eq_false_iff_not, beq_iff_eq, beq_eq_false_iff_ne, bne_iff_ne, bne_eq_false_iff_eq, ne_eq] at hc2'
    refine WP_seq (WP_region (CALL 21 [] (.s (.bool stowedL)) [] (by kernel_rfl) (goes_of (by kernel_rfl)) (by kernel_rfl) (by kernel_rfl) (fun hG nV w h => stowedL_calls   w (h.ents (1, .pf NobodyAt (· = 1)) (fnd_mem (by kernel_rfl))).1 (h.ents (2, .pf LanesAt (· = 0)) (fnd_mem (by kernel_rfl))).1 ) ?_))
    refine WPO_all tt_ok (by kernel_rfl) ?_
    refine WP_ret ?_
    exact ⟨.s (.bool stowedL), by kernel_rfl, fun nV w' h => ⟨by rw [show DeckMoreL b n = stowedL from by unfold DeckMoreL; simp only [hc2, cond_true, cond_false]]; rfl, h.bel⟩⟩
  have hc2' := hc2; try simp only [Bool.and_eq_true, Bool.or_eq_true, Bool.and_eq_false_iff, Bool.or_eq_false_iff, Bool.not_eq_true', Bool.not_eq_false', decide_eq_true_eq, decide_eq_false_iff_not, beq_iff_eq, beq_eq_false_iff_ne, bne_iff_ne, bne_eq_false_iff_eq, ne_eq] at hc2'
  refine WP_skip ?_
  have hv : ValidD b := sound_valid (by assumption)
  have hb5 := hv.n.2
  have hn1 := hv.n.1
  have hmd := modF_in n.2.1 (b.loads.length : Int) (by have := hv.n; omega) (by omega)
  refine WP_seq (WP_toX (σ := Unit) (fun _ => ⟨160, [(6, [], .s (.int .i64 (modF n.2.1 (b.loads.length : Int)))), (5, [], .s (.p 5 0)), (3, [], .s (.p 4 0)), (2, [], .s (.p 3 0))], [(5, .box 24 [.ref 0, .int .i64 b.rule, .int .i64 b.most]), (4, .box 76 [.int .i64 n.1, .int .i64 n.2.1, .int .i64 n.2.2]), (3, .box 24 [.ref 0, .int .i64 b.rule, .int .i64 b.most]), (0, .sl .ro 61 3 b.loads encLoad zLoad), (1, .pf NobodyAt (· = 1)), (2, .pf LanesAt (· = 0))], 6, []⟩) ?_ ?_)
  · refine WP_drawH [] (by kernel_rfl) (by kernel_rfl) ?_
    refine H_run tt_ok [0] (f' := 9) (by kernel_rfl) (by kernel_rfl) (by kernel_rfl) ?_
    refine H_AIX tt_ok 1 1 3 [] (by kernel_rfl) (fun hG => ⟨by omega, by omega⟩) (by kernel_rfl) (by kernel_rfl) ?_
    refine H_ARD tt_ok 2 4 1 1 0 [] 76 [.int .i64 n.1, .int .i64 n.2.1, .int .i64 n.2.2] (.int .i64 n.2.1) (by kernel_rfl) (by kernel_rfl) (by kernel_rfl) (fun _ => rfl) (by kernel_rfl) (by kernel_rfl) (by kernel_rfl) ?_
    refine H_run tt_ok [3, 4, 5] (f' := 4) (by kernel_rfl) (by kernel_rfl) (by kernel_rfl) ?_
    refine H_two 6 7 (by kernel_rfl) (by kernel_rfl) (by kernel_rfl) (fun hfz cx' hx1 hx2 => ?_) (fun hfz cx' hx1 hx2 => ?_)
    · refine CALL 54 [.s (.int .i64 n.2.1), .s (.int .i64 (b.loads.length : Int))] (.s (.int .i64 (modF n.2.1 (b.loads.length : Int)))) [] (by kernel_rfl) (goes_of (by kernel_rfl)) (by kernel_rfl) (by kernel_rfl) (fun hG nV w h => modF_calls  n.2.1 (b.loads.length : Int) w  ) ?_
      refine WPO_end (by kernel_rfl) ⟨rfl, (hfz.fnds [4, 3, 0, 1, 2] (by kernel_rfl) ⟨by kernel_rfl, by kernel_rfl, by kernel_rfl, by kernel_rfl, by kernel_rfl, trivial⟩ (by kernel_rfl)), ?_⟩
      refine H_step 7 (by kernel_rfl) (by kernel_rfl) (fun hfz cx' hx1 hx2 => ?_)
      refine WPO_all tt_ok (by kernel_rfl) ?_
      refine ⟨rfl, (hfz.fnds [4, 3, 0, 1, 2] (by kernel_rfl) ⟨by kernel_rfl, by kernel_rfl, by kernel_rfl, by kernel_rfl, by kernel_rfl, trivial⟩ (by kernel_rfl)), ?_⟩
      refine H_step 8 (by kernel_rfl) (by kernel_rfl) (fun hfz cx' hx1 hx2 => ?_)
      refine WPO_all tt_ok (by kernel_rfl) ?_
      refine ⟨rfl, (hfz.fnds [4, 3, 0, 1, 2] (by kernel_rfl) ⟨by kernel_rfl, by kernel_rfl, by kernel_rfl, by kernel_rfl, by kernel_rfl, trivial⟩ (by kernel_rfl)), ?_⟩
      refine H_run tt_ok [9] (f' := 0) (by kernel_rfl) (by kernel_rfl) (by kernel_rfl) ?_
      refine H_done (by kernel_rfl) ?_
      exact ⟨(), Le_sel (ts := [6, 5, 3, 2]) (ids := [5, 4, 3, 0, 1, 2]) (nx := 6) (by kernel_rfl)⟩
    · refine WPO_all tt_ok (by kernel_rfl) ?_
      refine ⟨rfl, (hfz.fnds [4, 3, 0, 1, 2] (by kernel_rfl) ⟨by kernel_rfl, by kernel_rfl, by kernel_rfl, by kernel_rfl, by kernel_rfl, trivial⟩ (by kernel_rfl)), ?_⟩
      refine H_step 6 (by kernel_rfl) (by kernel_rfl) (fun hfz cx' hx1 hx2 => ?_)
      refine CALL 54 [.s (.int .i64 n.2.1), .s (.int .i64 (b.loads.length : Int))] (.s (.int .i64 (modF n.2.1 (b.loads.length : Int)))) [] (by kernel_rfl) (goes_of (by kernel_rfl)) (by kernel_rfl) (by kernel_rfl) (fun hG nV w h => modF_calls  n.2.1 (b.loads.length : Int) w  ) ?_
      refine WPO_end (by kernel_rfl) ⟨rfl, (hfz.fnds [4, 3, 0, 1, 2] (by kernel_rfl) ⟨by kernel_rfl, by kernel_rfl, by kernel_rfl, by kernel_rfl, by kernel_rfl, trivial⟩ (by kernel_rfl)), ?_⟩
      refine H_step 8 (by kernel_rfl) (by kernel_rfl) (fun hfz cx' hx1 hx2 => ?_)
      refine WPO_all tt_ok (by kernel_rfl) ?_
      refine ⟨rfl, (hfz.fnds [4, 3, 0, 1, 2] (by kernel_rfl) ⟨by kernel_rfl, by kernel_rfl, by kernel_rfl, by kernel_rfl, by kernel_rfl, trivial⟩ (by kernel_rfl)), ?_⟩
      refine H_run tt_ok [9] (f' := 0) (by kernel_rfl) (by kernel_rfl) (by kernel_rfl) ?_
      refine H_done (by kernel_rfl) ?_
      exact ⟨(), Le_sel (ts := [6, 5, 3, 2]) (ids := [5, 4, 3, 0, 1, 2]) (nx := 6) (by kernel_rfl)⟩
  intro _
  refine WP_seq (WP_seq (WP_region (AIX tt_ok 2 3 [] (by kernel_rfl) (fun hG => ⟨by omega, by omega⟩) ?_)))
  refine ARD tt_ok 4 2 1 0 [] 76 [.int .i64 n.1, .int .i64 n.2.1, .int .i64 n.2.2] (.int .i64 n.2.2) (by kernel_rfl) (by kernel_rfl) (by kernel_rfl) (fun _ => rfl) ?_
  refine CALL 54 [.s (.int .i64 n.2.2), .s (.int .i64 3)] (.s (.int .i64 (modF n.2.2 3))) [] (by kernel_rfl) (goes_of (by kernel_rfl)) (by kernel_rfl) (by kernel_rfl) (fun hG nV w h => modF_calls  n.2.2 3 w  ) ?_
  refine WPO_nil ?_
  refine WP_block ?_
  refine WP_seq (WP_region (WPO_all tt_ok (by kernel_rfl) ?_))
  refine WP_cond ((modF n.2.2 3) == 0) (by kernel_rfl) (fun hc4 => ?_) (fun hc4 => ?_)
  · have hc4' := hc4; try simp only [Bool.and_eq_true, Bool.or_eq_true, Bool.and_eq_false_iff, Bool.or_eq_false_iff, Bool.not_eq_true', Bool.not_eq_false', decide_eq_true_eq, decide_eq_false_iff_not, beq_iff_eq, beq_eq_false_iff_ne, bne_iff_ne, bne_eq_false_iff_eq, ne_eq] at hc4'
    refine WP_drawHM 9 [] [5] (by kernel_rfl) (by kernel_rfl) ?_
    refine H_run tt_ok [0, 1, 2] (f' := 6) (by kernel_rfl) (by kernel_rfl) (by kernel_rfl) ?_
    refine H_AIX tt_ok 3 1 3 [] (by kernel_rfl) (fun hG => ⟨by omega, by omega⟩) (by kernel_rfl) (by kernel_rfl) ?_
    refine H_ARD tt_ok 4 4 1 1 0 [] 76 [.int .i64 n.1, .int .i64 n.2.1, .int .i64 n.2.2] (.int .i64 n.2.1) (by kernel_rfl) (by kernel_rfl) (by kernel_rfl) (fun _ => rfl) (by kernel_rfl) (by kernel_rfl) (by kernel_rfl) ?_
    refine H_step 5 (by kernel_rfl) (by kernel_rfl) (fun hfz cx' hx1 hx2 => ?_)
    refine CALL 54 [.s (.int .i64 n.2.1), .s (.int .i64 5)] (.s (.int .i64 (modF n.2.1 5))) [] (by kernel_rfl) (goes_of (by kernel_rfl)) (by kernel_rfl) (by kernel_rfl) (fun hG nV w h => modF_calls  n.2.1 5 w  ) ?_
    refine WPO_end (by kernel_rfl) ⟨rfl, (hfz.fnds [5, 4, 3, 0, 1, 2] (by kernel_rfl) ⟨by kernel_rfl, by kernel_rfl, by kernel_rfl, by kernel_rfl, by kernel_rfl, by kernel_rfl, trivial⟩ (by kernel_rfl)), ?_⟩
    refine H_run tt_ok [6, 7, 8] (f' := 0) (by kernel_rfl) (by kernel_rfl) (by kernel_rfl) ?_
    refine H_done (by kernel_rfl) ?_
    refine ⟨(by kernel_rfl), ?_⟩
    refine H_step 9 (by kernel_rfl) (by kernel_rfl) (fun hfz cx' hx1 hx2 => ?_)
    refine WPO_all tt_ok (by kernel_rfl) ?_
    refine ⟨rfl, (hfz.fnds [4, 3, 0, 1, 2] (by kernel_rfl) ⟨by kernel_rfl, by kernel_rfl, by kernel_rfl, by kernel_rfl, by kernel_rfl, trivial⟩ (by kernel_rfl)), ?_⟩
    refine H_done (by kernel_rfl) ?_
    refine WP_seq (WP_region (WPO_run tt_ok 1 (by kernel_rfl) ?_))
    refine AIX tt_ok 0 3 [] (by kernel_rfl) (fun hG => ⟨by omega, by omega⟩) ?_
    refine ARD tt_ok 4 0 1 0 [] 76 [.int .i64 n.1, .int .i64 n.2.1, .int .i64 n.2.2] (.int .i64 n.1) (by kernel_rfl) (by kernel_rfl) (by kernel_rfl) (fun _ => rfl) ?_
    refine CALLO 28 [.g [.ref 0, .int .i64 b.rule, .int .i64 b.most], .s (.int .i64 n.1)] (.s (.ref 6)) 3 1 (chosenL b n.1) encI 0 6 (by kernel_rfl) (by kernel_rfl) (goes_of (by kernel_rfl)) (by kernel_rfl) (by kernel_rfl) (fun _ => rfl) ((fun nV w h => chosenL_calls (nV 0) b n.1 w (h.reads (id := 0) (kd := .ro) (e := 61) (by kernel_rfl)) (by first | assumption | omega))) ?_
    refine WPO_all tt_ok (by kernel_rfl) ?_
    refine WP_seq (WP_region (WPO_run tt_ok 1 (by kernel_rfl) ?_))
    refine CALLR 45 [.g [.ref 0, .int .i64 b.rule, .int .i64 b.most]] (.t [(false, [.ref 7]), (false, [.int .i64 (mostA b).2])]) 3 1 (mostA b).1 encI 0 7 (by kernel_rfl) (by kernel_rfl) (goes_of (by kernel_rfl)) (by kernel_rfl) (by kernel_rfl) (by decide) (fun _ => rfl) (fun nV w h => (mostA_calls (nV 0) b w (h.reads (id := 0) (kd := .ro) (e := 61) (by kernel_rfl)) (h.ents (1, .pf NobodyAt (· = 1)) (fnd_mem (by kernel_rfl))).1 (h.ents (2, .pf LanesAt (· = 0)) (fnd_mem (by kernel_rfl))).1 ).mono fun e w' h1 => weak_fresh h1) ?_
    refine WPO_all tt_ok (by kernel_rfl) ?_
    refine WP_seq (WP_region (WPO_run tt_ok 1 (by kernel_rfl) ?_))
    refine CALLR 45 [.g [.ref 0, .int .i64 (mn 30 (IntKind.i64.wrap ((IntKind.i64.wrap (b.rule + 1)) + (modF n.2.1 5)))), .int .i64 b.most]] (.t [(false, [.ref 8]), (false, [.int .i64 (mostA (⟨b.loads, mn 30 (IntKind.i64.wrap ((IntKind.i64.wrap (b.rule + 1)) + (modF n.2.1 5))), b.most⟩ : DBook)).2])]) 3 1 (mostA (⟨b.loads, mn 30 (IntKind.i64.wrap ((IntKind.i64.wrap (b.rule + 1)) + (modF n.2.1 5))), b.most⟩ : DBook)).1 encI 0 8 (by kernel_rfl) (by kernel_rfl) (goes_of (by kernel_rfl)) (by kernel_rfl) (by kernel_rfl) (by decide) (fun _ => rfl) (fun nV w h => (mostA_calls (nV 0) (⟨b.loads, mn 30 (IntKind.i64.wrap ((IntKind.i64.wrap (b.rule + 1)) + (modF n.2.1 5))), b.most⟩ : DBook) w (h.reads (id := 0) (kd := .ro) (e := 61) (by kernel_rfl)) (h.ents (1, .pf NobodyAt (· = 1)) (fnd_mem (by kernel_rfl))).1 (h.ents (2, .pf LanesAt (· = 0)) (fnd_mem (by kernel_rfl))).1 ).mono fun e w' h1 => weak_fresh h1) ?_
    refine WPO_all tt_ok (by kernel_rfl) ?_
    refine WP_seq (WP_seq (WP_region (WPO_run tt_ok 16 (by kernel_rfl) ?_)))
    refine CALL 51 [.g [.ref 0, .int .i64 b.rule, .int .i64 b.most], .s (.ref 6)] (.s (.bool (canL b (chosenL b n.1)))) [((((mostA b).2 != 0) || ((mostA (⟨b.loads, mn 30 (IntKind.i64.wrap ((IntKind.i64.wrap (b.rule + 1)) + (modF n.2.1 5))), b.most⟩ : DBook)).2 != 0)) || (decide (((mostA (⟨b.loads, mn 30 (IntKind.i64.wrap ((IntKind.i64.wrap (b.rule + 1)) + (modF n.2.1 5))), b.most⟩ : DBook)).1.length : Int) < ((mostA b).1.length : Int))), false)] (by kernel_rfl) (goes_of (by kernel_rfl)) (by kernel_rfl) (by kernel_rfl) (fun hG nV w h => canL_calls (nV 0) (nV 6) b (chosenL b n.1) w (h.reads (id := 0) (kd := .ro) (e := 61) (by kernel_rfl)) (h.reads (id := 6) (kd := .own) (e := 3) (by kernel_rfl)) (h.ents (1, .pf NobodyAt (· = 1)) (fnd_mem (by kernel_rfl))).1 (h.ents (2, .pf LanesAt (· = 0)) (fnd_mem (by kernel_rfl))).1 ) ?_
    refine WPO_run tt_ok 3 (by kernel_rfl) ?_
    refine CALL 51 [.g [.ref 0, .int .i64 (mn 30 (IntKind.i64.wrap ((IntKind.i64.wrap (b.rule + 1)) + (modF n.2.1 5)))), .int .i64 b.most], .s (.ref 6)] (.s (.bool (canL (⟨b.loads, mn 30 (IntKind.i64.wrap ((IntKind.i64.wrap (b.rule + 1)) + (modF n.2.1 5))), b.most⟩ : DBook) (chosenL b n.1)))) [((canL b (chosenL b n.1)), true), ((((mostA b).2 != 0) || ((mostA (⟨b.loads, mn 30 (IntKind.i64.wrap ((IntKind.i64.wrap (b.rule + 1)) + (modF n.2.1 5))), b.most⟩ : DBook)).2 != 0)) || (decide (((mostA (⟨b.loads, mn 30 (IntKind.i64.wrap ((IntKind.i64.wrap (b.rule + 1)) + (modF n.2.1 5))), b.most⟩ : DBook)).1.length : Int) < ((mostA b).1.length : Int))), false)] (by kernel_rfl) (goes_of (by kernel_rfl)) (by kernel_rfl) (by kernel_rfl) (fun hG nV w h => canL_calls (nV 0) (nV 6) (⟨b.loads, mn 30 (IntKind.i64.wrap ((IntKind.i64.wrap (b.rule + 1)) + (modF n.2.1 5))), b.most⟩ : DBook) (chosenL b n.1) w (h.reads (id := 0) (kd := .ro) (e := 61) (by kernel_rfl)) (h.reads (id := 6) (kd := .own) (e := 3) (by kernel_rfl)) (h.ents (1, .pf NobodyAt (· = 1)) (fnd_mem (by kernel_rfl))).1 (h.ents (2, .pf LanesAt (· = 0)) (fnd_mem (by kernel_rfl))).1 ) ?_
    refine WPO_all tt_ok (by kernel_rfl) ?_
    refine WP_cond (((((mostA b).2 != 0) || ((mostA (⟨b.loads, mn 30 (IntKind.i64.wrap ((IntKind.i64.wrap (b.rule + 1)) + (modF n.2.1 5))), b.most⟩ : DBook)).2 != 0)) || (decide (((mostA (⟨b.loads, mn 30 (IntKind.i64.wrap ((IntKind.i64.wrap (b.rule + 1)) + (modF n.2.1 5))), b.most⟩ : DBook)).1.length : Int) < ((mostA b).1.length : Int)))) || ((canL b (chosenL b n.1)) && (!(canL (⟨b.loads, mn 30 (IntKind.i64.wrap ((IntKind.i64.wrap (b.rule + 1)) + (modF n.2.1 5))), b.most⟩ : DBook) (chosenL b n.1))))) (by kernel_rfl) (fun hc6 => ?_) (fun hc6 => ?_)
    · have hc6' := hc6; try simp only [Bool.and_eq_true, Bool.or_eq_true, Bool.and_eq_false_iff, Bool.or_eq_false_iff, Bool.not_eq_true', Bool.not_eq_false', decide_eq_true_eq, decide_eq_false_iff_not, beq_iff_eq, beq_eq_false_iff_ne, bne_iff_ne, bne_eq_false_iff_eq, ne_eq] at hc6'
      refine WP_seq (WP_region (WPO_all tt_ok (by kernel_rfl) ?_))
      refine WP_ret ?_
      exact ⟨.s (.bool false), by kernel_rfl, fun nV w' h => ⟨by rw [show DeckMoreL b n = false from by unfold DeckMoreL; simp only [hc2, hc4, hc6, cond_true, cond_false]]; rfl, h.bel⟩⟩
    have hc6' := hc6; try simp only [Bool.and_eq_true, Bool.or_eq_true, Bool.and_eq_false_iff, Bool.or_eq_false_iff, Bool.not_eq_true', Bool.not_eq_false', decide_eq_true_eq, decide_eq_false_iff_not, beq_iff_eq, beq_eq_false_iff_ne, bne_iff_ne, bne_eq_false_iff_eq, ne_eq] at hc6'
    refine WP_skip ?_
    refine WP_seq (WP_region (WPO_run tt_ok 1 (by kernel_rfl) ?_))
    refine CALLR 46 [.g [.ref 0, .int .i64 b.rule, .int .i64 b.most]] (.t [(false, [.ref 9]), (false, [.int .i64 (fewestA b).2])]) 3 1 (fewestA b).1 encI 0 9 (by kernel_rfl) (by kernel_rfl) (goes_of (by kernel_rfl)) (by kernel_rfl) (by kernel_rfl) (by decide) (fun _ => rfl) (fun nV w h => (fewestA_calls (nV 0) b w (h.reads (id := 0) (kd := .ro) (e := 61) (by kernel_rfl)) (h.ents (1, .pf NobodyAt (· = 1)) (fnd_mem (by kernel_rfl))).1 (h.ents (2, .pf LanesAt (· = 0)) (fnd_mem (by kernel_rfl))).1 ).mono fun e w' h1 => weak_fresh h1) ?_
    refine WPO_all tt_ok (by kernel_rfl) ?_
    refine WP_seq (WP_region (WPO_run tt_ok 1 (by kernel_rfl) ?_))
    refine CALLR 46 [.g [.ref 0, .int .i64 (mn 30 (IntKind.i64.wrap ((IntKind.i64.wrap (b.rule + 1)) + (modF n.2.1 5)))), .int .i64 b.most]] (.t [(false, [.ref 10]), (false, [.int .i64 (fewestA (⟨b.loads, mn 30 (IntKind.i64.wrap ((IntKind.i64.wrap (b.rule + 1)) + (modF n.2.1 5))), b.most⟩ : DBook)).2])]) 3 1 (fewestA (⟨b.loads, mn 30 (IntKind.i64.wrap ((IntKind.i64.wrap (b.rule + 1)) + (modF n.2.1 5))), b.most⟩ : DBook)).1 encI 0 10 (by kernel_rfl) (by kernel_rfl) (goes_of (by kernel_rfl)) (by kernel_rfl) (by kernel_rfl) (by decide) (fun _ => rfl) (fun nV w h => (fewestA_calls (nV 0) (⟨b.loads, mn 30 (IntKind.i64.wrap ((IntKind.i64.wrap (b.rule + 1)) + (modF n.2.1 5))), b.most⟩ : DBook) w (h.reads (id := 0) (kd := .ro) (e := 61) (by kernel_rfl)) (h.ents (1, .pf NobodyAt (· = 1)) (fnd_mem (by kernel_rfl))).1 (h.ents (2, .pf LanesAt (· = 0)) (fnd_mem (by kernel_rfl))).1 ).mono fun e w' h1 => weak_fresh h1) ?_
    refine WPO_all tt_ok (by kernel_rfl) ?_
    refine WP_seq (WP_region (WPO_run tt_ok 1 (by kernel_rfl) ?_))
    refine CALLR 47 [.g [.ref 0, .int .i64 b.rule, .int .i64 b.most]] (.t [(false, [.ref 11]), (false, [.int .i64 (neverA b).2])]) 3 1 (neverA b).1 encI 0 11 (by kernel_rfl) (by kernel_rfl) (goes_of (by kernel_rfl)) (by kernel_rfl) (by kernel_rfl) (by decide) (fun _ => rfl) (fun nV w h => (neverA_calls (nV 0) b w (h.reads (id := 0) (kd := .ro) (e := 61) (by kernel_rfl)) (h.ents (1, .pf NobodyAt (· = 1)) (fnd_mem (by kernel_rfl))).1 (h.ents (2, .pf LanesAt (· = 0)) (fnd_mem (by kernel_rfl))).1 ).mono fun e w' h1 => weak_fresh h1) ?_
    refine WPO_all tt_ok (by kernel_rfl) ?_
    refine WP_seq (WP_region (WPO_run tt_ok 1 (by kernel_rfl) ?_))
    refine CALLR 47 [.g [.ref 0, .int .i64 (mn 30 (IntKind.i64.wrap ((IntKind.i64.wrap (b.rule + 1)) + (modF n.2.1 5)))), .int .i64 b.most]] (.t [(false, [.ref 12]), (false, [.int .i64 (neverA (⟨b.loads, mn 30 (IntKind.i64.wrap ((IntKind.i64.wrap (b.rule + 1)) + (modF n.2.1 5))), b.most⟩ : DBook)).2])]) 3 1 (neverA (⟨b.loads, mn 30 (IntKind.i64.wrap ((IntKind.i64.wrap (b.rule + 1)) + (modF n.2.1 5))), b.most⟩ : DBook)).1 encI 0 12 (by kernel_rfl) (by kernel_rfl) (goes_of (by kernel_rfl)) (by kernel_rfl) (by kernel_rfl) (by decide) (fun _ => rfl) (fun nV w h => (neverA_calls (nV 0) (⟨b.loads, mn 30 (IntKind.i64.wrap ((IntKind.i64.wrap (b.rule + 1)) + (modF n.2.1 5))), b.most⟩ : DBook) w (h.reads (id := 0) (kd := .ro) (e := 61) (by kernel_rfl)) (h.ents (1, .pf NobodyAt (· = 1)) (fnd_mem (by kernel_rfl))).1 (h.ents (2, .pf LanesAt (· = 0)) (fnd_mem (by kernel_rfl))).1 ).mono fun e w' h1 => weak_fresh h1) ?_
    refine WPO_all tt_ok (by kernel_rfl) ?_
    refine WP_seq (WP_seq (WP_region (WPO_run tt_ok 14 (by kernel_rfl) ?_)))
    refine CALL 61 [.s (.ref 10)] (.s (.int .i64 (crossingsL (fewestA (⟨b.loads, mn 30 (IntKind.i64.wrap ((IntKind.i64.wrap (b.rule + 1)) + (modF n.2.1 5))), b.most⟩ : DBook)).1))) [((fewestA (⟨b.loads, mn 30 (IntKind.i64.wrap ((IntKind.i64.wrap (b.rule + 1)) + (modF n.2.1 5))), b.most⟩ : DBook)).2 != 0, false), ((fewestA b).2 == 0, true), (((neverA b).2 != 0) || ((neverA (⟨b.loads, mn 30 (IntKind.i64.wrap ((IntKind.i64.wrap (b.rule + 1)) + (modF n.2.1 5))), b.most⟩ : DBook)).2 != 0), false)] (by kernel_rfl) (goes_of (by kernel_rfl)) (by kernel_rfl) (by kernel_rfl) (fun hG nV w h => crossingsL_calls (nV 10) (fewestA (⟨b.loads, mn 30 (IntKind.i64.wrap ((IntKind.i64.wrap (b.rule + 1)) + (modF n.2.1 5))), b.most⟩ : DBook)).1 w (h.reads (id := 10) (kd := .ro) (e := 3) (by kernel_rfl)) ) ?_
    refine WPO_run tt_ok 1 (by kernel_rfl) ?_
    refine CALL 61 [.s (.ref 9)] (.s (.int .i64 (crossingsL (fewestA b).1))) [((fewestA (⟨b.loads, mn 30 (IntKind.i64.wrap ((IntKind.i64.wrap (b.rule + 1)) + (modF n.2.1 5))), b.most⟩ : DBook)).2 != 0, false), ((fewestA b).2 == 0, true), (((neverA b).2 != 0) || ((neverA (⟨b.loads, mn 30 (IntKind.i64.wrap ((IntKind.i64.wrap (b.rule + 1)) + (modF n.2.1 5))), b.most⟩ : DBook)).2 != 0), false)] (by kernel_rfl) (goes_of (by kernel_rfl)) (by kernel_rfl) (by kernel_rfl) (fun hG nV w h => crossingsL_calls (nV 9) (fewestA b).1 w (h.reads (id := 9) (kd := .ro) (e := 3) (by kernel_rfl)) ) ?_
    refine WPO_all tt_ok (by kernel_rfl) ?_
    refine WP_cond ((((neverA b).2 != 0) || ((neverA (⟨b.loads, mn 30 (IntKind.i64.wrap ((IntKind.i64.wrap (b.rule + 1)) + (modF n.2.1 5))), b.most⟩ : DBook)).2 != 0)) || (((fewestA b).2 == 0) && (((fewestA (⟨b.loads, mn 30 (IntKind.i64.wrap ((IntKind.i64.wrap (b.rule + 1)) + (modF n.2.1 5))), b.most⟩ : DBook)).2 != 0) || (decide ((crossingsL (fewestA (⟨b.loads, mn 30 (IntKind.i64.wrap ((IntKind.i64.wrap (b.rule + 1)) + (modF n.2.1 5))), b.most⟩ : DBook)).1) > (crossingsL (fewestA b).1)))))) (by kernel_rfl) (fun hc8 => ?_) (fun hc8 => ?_)
    · have hc8' := hc8; try simp only [Bool.and_eq_true, Bool.or_eq_true, Bool.and_eq_false_iff, Bool.or_eq_false_iff, Bool.not_eq_true', Bool.not_eq_false', decide_eq_true_eq, decide_eq_false_iff_not, beq_iff_eq, beq_eq_false_iff_ne, bne_iff_ne, bne_eq_false_iff_eq, ne_eq] at hc8'
      refine WP_seq (WP_region (WPO_all tt_ok (by kernel_rfl) ?_))
      refine WP_ret ?_
      exact ⟨.s (.bool false), by kernel_rfl, fun nV w' h => ⟨by rw [show DeckMoreL b n = false from by unfold DeckMoreL; simp only [hc2, hc4, hc6, hc8, cond_true, cond_false]]; rfl, h.bel⟩⟩
    have hc8' := hc8; try simp only [Bool.and_eq_true, Bool.or_eq_true, Bool.and_eq_false_iff, Bool.or_eq_false_iff, Bool.not_eq_true', Bool.not_eq_false', decide_eq_true_eq, decide_eq_false_iff_not, beq_iff_eq, beq_eq_false_iff_ne, bne_iff_ne, bne_eq_false_iff_eq, ne_eq] at hc8'
    refine WP_skip ?_
    refine WP_seq (WP_seq (WP_region (WPO_all tt_ok (by kernel_rfl) ?_)))
    refine WP_fact (p := ((neverA (⟨b.loads, mn 30 (IntKind.i64.wrap ((IntKind.i64.wrap (b.rule + 1)) + (modF n.2.1 5))), b.most⟩ : DBook)).1.length : Int) ≤ 9223372036854775807) (fun nV aV wV hs => Reads.len (sz := 1) (enc := encI) (z := 0) (hs.heap.reads (id := 12) (kd := .ro) (e := 3) (by kernel_rfl))) (fun hN1 => ?_)
    refine WP_loopA (ρ := Bool) (DeckMoreL_c1 b n) (DeckMoreL_b1 b n) (neverA (⟨b.loads, mn 30 (IntKind.i64.wrap ((IntKind.i64.wrap (b.rule + 1)) + (modF n.2.1 5))), b.most⟩ : DBook)).1.length () (fun k : Nat => (k : Int)) (fun (ci : Int) (zz : Unit) => ⟨160, [(18, [], .s (.int .i64 ci)), (16, [], .s (.ref 12)), (14, [], .s (.ref 11))], [(12, .sl .ro 3 1 (neverA (⟨b.loads, mn 30 (IntKind.i64.wrap ((IntKind.i64.wrap (b.rule + 1)) + (modF n.2.1 5))), b.most⟩ : DBook)).1 encI 0), (11, .sl .ro 3 1 (neverA b).1 encI 0), (10, .sl .ro 3 1 (fewestA (⟨b.loads, mn 30 (IntKind.i64.wrap ((IntKind.i64.wrap (b.rule + 1)) + (modF n.2.1 5))), b.most⟩ : DBook)).1 encI 0), (9, .sl .ro 3 1 (fewestA b).1 encI 0), (8, .sl .ro 3 1 (mostA (⟨b.loads, mn 30 (IntKind.i64.wrap ((IntKind.i64.wrap (b.rule + 1)) + (modF n.2.1 5))), b.most⟩ : DBook)).1 encI 0), (7, .sl .ro 3 1 (mostA b).1 encI 0), (6, .sl .own 3 1 (chosenL b n.1) encI 0), (5, .box 24 [.ref 0, .int .i64 (mn 30 (IntKind.i64.wrap ((IntKind.i64.wrap (b.rule + 1)) + (modF n.2.1 5)))), .int .i64 b.most]), (4, .box 76 [.int .i64 n.1, .int .i64 n.2.1, .int .i64 n.2.2]), (3, .box 24 [.ref 0, .int .i64 b.rule, .int .i64 b.most]), (0, .sl .ro 61 3 b.loads encLoad zLoad), (1, .pf NobodyAt (· = 1)), (2, .pf LanesAt (· = 0))], 13, []⟩) (fun zz : Unit => ⟨160, [], [(12, .sl .ro 3 1 (neverA (⟨b.loads, mn 30 (IntKind.i64.wrap ((IntKind.i64.wrap (b.rule + 1)) + (modF n.2.1 5))), b.most⟩ : DBook)).1 encI 0), (11, .sl .ro 3 1 (neverA b).1 encI 0), (10, .sl .ro 3 1 (fewestA (⟨b.loads, mn 30 (IntKind.i64.wrap ((IntKind.i64.wrap (b.rule + 1)) + (modF n.2.1 5))), b.most⟩ : DBook)).1 encI 0), (9, .sl .ro 3 1 (fewestA b).1 encI 0), (8, .sl .ro 3 1 (mostA (⟨b.loads, mn 30 (IntKind.i64.wrap ((IntKind.i64.wrap (b.rule + 1)) + (modF n.2.1 5))), b.most⟩ : DBook)).1 encI 0), (7, .sl .ro 3 1 (mostA b).1 encI 0), (6, .sl .own 3 1 (chosenL b n.1) encI 0), (5, .box 24 [.ref 0, .int .i64 (mn 30 (IntKind.i64.wrap ((IntKind.i64.wrap (b.rule + 1)) + (modF n.2.1 5)))), .int .i64 b.most]), (4, .box 76 [.int .i64 n.1, .int .i64 n.2.1, .int .i64 n.2.2]), (3, .box 24 [.ref 0, .int .i64 b.rule, .int .i64 b.most]), (0, .sl .ro 61 3 b.loads encLoad zLoad), (1, .pf NobodyAt (· = 1)), (2, .pf LanesAt (· = 0))], 13, []⟩) (fun k zz => True) trivial ⟨0, rfl, Le_sel (ts := [18, 16, 14]) (ids := [12, 11, 10, 9, 8, 7, 6, 5, 4, 3, 0, 1, 2]) (nx := 13) (by kernel_rfl)⟩ ?_ ?_
    · intro k1 zz hn1 hp1 hi1 Q1 hq1 ho1
      refine WP_seq (WP_seq (WP_region (WPO_all tt_ok (by kernel_rfl) ?_)))
      refine WP_cond (decide ((k1 : Int) < ((neverA (⟨b.loads, mn 30 (IntKind.i64.wrap ((IntKind.i64.wrap (b.rule + 1)) + (modF n.2.1 5))), b.most⟩ : DBook)).1.length : Int))) (by kernel_rfl) (fun hc9 => ?_) (fun hc9 => ?_)
      rotate_left
      · refine WP_exit ?_
        show Q1 (.exit 1) _
        exact LA_exit hq1 () (loopR_end hi1 hc9) ⟨k1, hn1, hp1⟩ (Le_sel (ts := []) (ids := [12, 11, 10, 9, 8, 7, 6, 5, 4, 3, 0, 1, 2]) (nx := 13) (by kernel_rfl))
      have hc9' := of_decide_eq_true hc9
      have hk1 : k1 < (neverA (⟨b.loads, mn 30 (IntKind.i64.wrap ((IntKind.i64.wrap (b.rule + 1)) + (modF n.2.1 5))), b.most⟩ : DBook)).1.length := by omega
      refine WP_skip ?_
      refine WP_seq (WP_block ?_)
      refine WP_seq (WP_region (WPO_run tt_ok 3 (by kernel_rfl) ?_))
      refine IX tt_ok (k1 : Int) (neverA (⟨b.loads, mn 30 (IntKind.i64.wrap ((IntKind.i64.wrap (b.rule + 1)) + (modF n.2.1 5))), b.most⟩ : DBook)).1.length [] (by kernel_rfl) (fun hG => ⟨by omega, by omega⟩) ?_
      refine WPO_run tt_ok 1 (by kernel_rfl) ?_
      refine CALL 56 [.s (.ref 11), .s (.int .i64 ((neverA (⟨b.loads, mn 30 (IntKind.i64.wrap ((IntKind.i64.wrap (b.rule + 1)) + (modF n.2.1 5))), b.most⟩ : DBook)).1.getD k1 0))] (.s (.int .i64 (atF (neverA b).1 ((neverA (⟨b.loads, mn 30 (IntKind.i64.wrap ((IntKind.i64.wrap (b.rule + 1)) + (modF n.2.1 5))), b.most⟩ : DBook)).1.getD k1 0)))) [] (by kernel_rfl) (goes_of (by kernel_rfl)) (by kernel_rfl) (by kernel_rfl) (fun hG nV w h => atF_calls (nV 11) (neverA b).1 ((neverA (⟨b.loads, mn 30 (IntKind.i64.wrap ((IntKind.i64.wrap (b.rule + 1)) + (modF n.2.1 5))), b.most⟩ : DBook)).1.getD k1 0) w (h.reads (id := 11) (kd := .ro) (e := 3) (by kernel_rfl)) ) ?_
      refine WPO_all tt_ok (by kernel_rfl) ?_
      refine WP_cond (decide ((atF (neverA b).1 ((neverA (⟨b.loads, mn 30 (IntKind.i64.wrap ((IntKind.i64.wrap (b.rule + 1)) + (modF n.2.1 5))), b.most⟩ : DBook)).1.getD k1 0)) < 0)) (by kernel_rfl) (fun hc11 => ?_) (fun hc11 => ?_)
      · have hc11' := of_decide_eq_true hc11
        refine WP_seq (WP_region (WPO_all tt_ok (by kernel_rfl) ?_))
        refine WP_ret ?_
        show Q1 .ret _
        refine LA_ret hq1 ?_
        have he12 := loopR_ret (r := false) hi1 hk1 hc9 (by unfold DeckMoreL_b1; simp only [hc11, cond_true, cond_false])
        exact ⟨.s (.bool false), by kernel_rfl, fun nV w' h => ⟨by rw [show DeckMoreL b n = false from by unfold DeckMoreL; simp only [hc2, hc4, hc6, hc8, he12, cond_true, cond_false]]; rfl, h.bel⟩⟩
      have hc11' := of_decide_eq_false hc11
      refine WP_skip ?_
      refine WP_region (WPO_all tt_ok (by kernel_rfl) ?_)
      show Q1 .normal _
      exact LA_go hq1 (ci := IntKind.i64.wrap ((k1 : Int) + 1)) () hk1 (by show _ = ((k1 + 1 : Nat) : Int); rw [wrapI (by omega) (by omega)]; omega) (loopR_go hi1 hk1 hc9 (by unfold DeckMoreL_b1; simp only [hc11, cond_true, cond_false])) trivial (Le_sel (ts := [18, 16, 14]) (ids := [12, 11, 10, 9, 8, 7, 6, 5, 4, 3, 0, 1, 2]) (nx := 13) (by kernel_rfl))
    intro zz hR1 hP1 s' hl
    refine WP_le hl ?_
    clear hl s'
    refine WP_seq (WP_region (CALL 21 [] (.s (.bool stowedL)) [] (by kernel_rfl) (goes_of (by kernel_rfl)) (by kernel_rfl) (by kernel_rfl) (fun hG nV w h => stowedL_calls   w (h.ents (1, .pf NobodyAt (· = 1)) (fnd_mem (by kernel_rfl))).1 (h.ents (2, .pf LanesAt (· = 0)) (fnd_mem (by kernel_rfl))).1 ) ?_))
    refine WPO_all tt_ok (by kernel_rfl) ?_
    refine WP_ret ?_
    exact ⟨.s (.bool stowedL), by kernel_rfl, fun nV w' h => ⟨by rw [show DeckMoreL b n = stowedL from by unfold DeckMoreL; simp only [hc2, hc4, hc6, hc8, hR1, cond_true, cond_false]]; rfl, h.bel⟩⟩
  have hc4' := hc4; try simp only [Bool.and_eq_true, Bool.or_eq_true, Bool.and_eq_false_iff, Bool.or_eq_false_iff, Bool.not_eq_true', Bool.not_eq_false', decide_eq_true_eq, decide_eq_false_iff_not, beq_iff_eq, beq_eq_false_iff_ne, bne_iff_ne, bne_eq_false_iff_eq, ne_eq] at hc4'
  refine WP_seq (WP_region (WPO_all tt_ok (by kernel_rfl) ?_))
  refine WP_cond ((modF n.2.2 3) == 1) (by kernel_rfl) (fun hc14 => ?_) (fun hc14 => ?_)
  · have hc14' := hc14; try simp only [Bool.and_eq_true, Bool.or_eq_true, Bool.and_eq_false_iff, Bool.or_eq_false_iff, Bool.not_eq_true', Bool.not_eq_false', decide_eq_true_eq, decide_eq_false_iff_not, beq_iff_eq, beq_eq_false_iff_ne, bne_iff_ne, bne_eq_false_iff_eq, ne_eq] at hc14'
    refine WP_drawHM 9 [] [5] (by kernel_rfl) (by kernel_rfl) ?_
    refine H_run tt_ok [0, 1, 2] (f' := 6) (by kernel_rfl) (by kernel_rfl) (by kernel_rfl) ?_
    refine H_AIX tt_ok 3 1 3 [] (by kernel_rfl) (fun hG => ⟨by omega, by omega⟩) (by kernel_rfl) (by kernel_rfl) ?_
    refine H_ARD tt_ok 4 4 1 1 0 [] 76 [.int .i64 n.1, .int .i64 n.2.1, .int .i64 n.2.2] (.int .i64 n.2.1) (by kernel_rfl) (by kernel_rfl) (by kernel_rfl) (fun _ => rfl) (by kernel_rfl) (by kernel_rfl) (by kernel_rfl) ?_
    refine H_step 5 (by kernel_rfl) (by kernel_rfl) (fun hfz cx' hx1 hx2 => ?_)
    refine CALL 54 [.s (.int .i64 n.2.1), .s (.int .i64 20)] (.s (.int .i64 (modF n.2.1 20))) [] (by kernel_rfl) (goes_of (by kernel_rfl)) (by kernel_rfl) (by kernel_rfl) (fun hG nV w h => modF_calls  n.2.1 20 w  ) ?_
    refine WPO_end (by kernel_rfl) ⟨rfl, (hfz.fnds [5, 4, 3, 0, 1, 2] (by kernel_rfl) ⟨by kernel_rfl, by kernel_rfl, by kernel_rfl, by kernel_rfl, by kernel_rfl, by kernel_rfl, trivial⟩ (by kernel_rfl)), ?_⟩
    refine H_run tt_ok [6, 7, 8] (f' := 0) (by kernel_rfl) (by kernel_rfl) (by kernel_rfl) ?_
    refine H_done (by kernel_rfl) ?_
    refine ⟨(by kernel_rfl), ?_⟩
    refine H_step 9 (by kernel_rfl) (by kernel_rfl) (fun hfz cx' hx1 hx2 => ?_)
    refine WPO_all tt_ok (by kernel_rfl) ?_
    refine ⟨rfl, (hfz.fnds [4, 3, 0, 1, 2] (by kernel_rfl) ⟨by kernel_rfl, by kernel_rfl, by kernel_rfl, by kernel_rfl, by kernel_rfl, trivial⟩ (by kernel_rfl)), ?_⟩
    refine H_done (by kernel_rfl) ?_
    refine WP_seq (WP_region (WPO_run tt_ok 1 (by kernel_rfl) ?_))
    refine AIX tt_ok 0 3 [] (by kernel_rfl) (fun hG => ⟨by omega, by omega⟩) ?_
    refine ARD tt_ok 4 0 1 0 [] 76 [.int .i64 n.1, .int .i64 n.2.1, .int .i64 n.2.2] (.int .i64 n.1) (by kernel_rfl) (by kernel_rfl) (by kernel_rfl) (fun _ => rfl) ?_
    refine CALLO 28 [.g [.ref 0, .int .i64 b.rule, .int .i64 b.most], .s (.int .i64 n.1)] (.s (.ref 6)) 3 1 (chosenL b n.1) encI 0 6 (by kernel_rfl) (by kernel_rfl) (goes_of (by kernel_rfl)) (by kernel_rfl) (by kernel_rfl) (fun _ => rfl) ((fun nV w h => chosenL_calls (nV 0) b n.1 w (h.reads (id := 0) (kd := .ro) (e := 61) (by kernel_rfl)) (by first | assumption | omega))) ?_
    refine WPO_all tt_ok (by kernel_rfl) ?_
    refine WP_seq (WP_region (WPO_run tt_ok 1 (by kernel_rfl) ?_))
    refine CALLR 45 [.g [.ref 0, .int .i64 b.rule, .int .i64 b.most]] (.t [(false, [.ref 7]), (false, [.int .i64 (mostA b).2])]) 3 1 (mostA b).1 encI 0 7 (by kernel_rfl) (by kernel_rfl) (goes_of (by kernel_rfl)) (by kernel_rfl) (by kernel_rfl) (by decide) (fun _ => rfl) (fun nV w h => (mostA_calls (nV 0) b w (h.reads (id := 0) (kd := .ro) (e := 61) (by kernel_rfl)) (h.ents (1, .pf NobodyAt (· = 1)) (fnd_mem (by kernel_rfl))).1 (h.ents (2, .pf LanesAt (· = 0)) (fnd_mem (by kernel_rfl))).1 ).mono fun e w' h1 => weak_fresh h1) ?_
    refine WPO_all tt_ok (by kernel_rfl) ?_
    refine WP_seq (WP_region (WPO_run tt_ok 1 (by kernel_rfl) ?_))
    refine CALLR 45 [.g [.ref 0, .int .i64 b.rule, .int .i64 (mn 200 (IntKind.i64.wrap ((IntKind.i64.wrap (b.most + 1)) + (modF n.2.1 20))))]] (.t [(false, [.ref 8]), (false, [.int .i64 (mostA (⟨b.loads, b.rule, mn 200 (IntKind.i64.wrap ((IntKind.i64.wrap (b.most + 1)) + (modF n.2.1 20)))⟩ : DBook)).2])]) 3 1 (mostA (⟨b.loads, b.rule, mn 200 (IntKind.i64.wrap ((IntKind.i64.wrap (b.most + 1)) + (modF n.2.1 20)))⟩ : DBook)).1 encI 0 8 (by kernel_rfl) (by kernel_rfl) (goes_of (by kernel_rfl)) (by kernel_rfl) (by kernel_rfl) (by decide) (fun _ => rfl) (fun nV w h => (mostA_calls (nV 0) (⟨b.loads, b.rule, mn 200 (IntKind.i64.wrap ((IntKind.i64.wrap (b.most + 1)) + (modF n.2.1 20)))⟩ : DBook) w (h.reads (id := 0) (kd := .ro) (e := 61) (by kernel_rfl)) (h.ents (1, .pf NobodyAt (· = 1)) (fnd_mem (by kernel_rfl))).1 (h.ents (2, .pf LanesAt (· = 0)) (fnd_mem (by kernel_rfl))).1 ).mono fun e w' h1 => weak_fresh h1) ?_
    refine WPO_all tt_ok (by kernel_rfl) ?_
    refine WP_seq (WP_seq (WP_region (WPO_run tt_ok 16 (by kernel_rfl) ?_)))
    refine CALL 51 [.g [.ref 0, .int .i64 b.rule, .int .i64 b.most], .s (.ref 6)] (.s (.bool (canL b (chosenL b n.1)))) [((((mostA b).2 != 0) || ((mostA (⟨b.loads, b.rule, mn 200 (IntKind.i64.wrap ((IntKind.i64.wrap (b.most + 1)) + (modF n.2.1 20)))⟩ : DBook)).2 != 0)) || (decide (((mostA (⟨b.loads, b.rule, mn 200 (IntKind.i64.wrap ((IntKind.i64.wrap (b.most + 1)) + (modF n.2.1 20)))⟩ : DBook)).1.length : Int) < ((mostA b).1.length : Int))), false)] (by kernel_rfl) (goes_of (by kernel_rfl)) (by kernel_rfl) (by kernel_rfl) (fun hG nV w h => canL_calls (nV 0) (nV 6) b (chosenL b n.1) w (h.reads (id := 0) (kd := .ro) (e := 61) (by kernel_rfl)) (h.reads (id := 6) (kd := .own) (e := 3) (by kernel_rfl)) (h.ents (1, .pf NobodyAt (· = 1)) (fnd_mem (by kernel_rfl))).1 (h.ents (2, .pf LanesAt (· = 0)) (fnd_mem (by kernel_rfl))).1 ) ?_
    refine WPO_run tt_ok 3 (by kernel_rfl) ?_
    refine CALL 51 [.g [.ref 0, .int .i64 b.rule, .int .i64 (mn 200 (IntKind.i64.wrap ((IntKind.i64.wrap (b.most + 1)) + (modF n.2.1 20))))], .s (.ref 6)] (.s (.bool (canL (⟨b.loads, b.rule, mn 200 (IntKind.i64.wrap ((IntKind.i64.wrap (b.most + 1)) + (modF n.2.1 20)))⟩ : DBook) (chosenL b n.1)))) [((canL b (chosenL b n.1)), true), ((((mostA b).2 != 0) || ((mostA (⟨b.loads, b.rule, mn 200 (IntKind.i64.wrap ((IntKind.i64.wrap (b.most + 1)) + (modF n.2.1 20)))⟩ : DBook)).2 != 0)) || (decide (((mostA (⟨b.loads, b.rule, mn 200 (IntKind.i64.wrap ((IntKind.i64.wrap (b.most + 1)) + (modF n.2.1 20)))⟩ : DBook)).1.length : Int) < ((mostA b).1.length : Int))), false)] (by kernel_rfl) (goes_of (by kernel_rfl)) (by kernel_rfl) (by kernel_rfl) (fun hG nV w h => canL_calls (nV 0) (nV 6) (⟨b.loads, b.rule, mn 200 (IntKind.i64.wrap ((IntKind.i64.wrap (b.most + 1)) + (modF n.2.1 20)))⟩ : DBook) (chosenL b n.1) w (h.reads (id := 0) (kd := .ro) (e := 61) (by kernel_rfl)) (h.reads (id := 6) (kd := .own) (e := 3) (by kernel_rfl)) (h.ents (1, .pf NobodyAt (· = 1)) (fnd_mem (by kernel_rfl))).1 (h.ents (2, .pf LanesAt (· = 0)) (fnd_mem (by kernel_rfl))).1 ) ?_
    refine WPO_all tt_ok (by kernel_rfl) ?_
    refine WP_cond (((((mostA b).2 != 0) || ((mostA (⟨b.loads, b.rule, mn 200 (IntKind.i64.wrap ((IntKind.i64.wrap (b.most + 1)) + (modF n.2.1 20)))⟩ : DBook)).2 != 0)) || (decide (((mostA (⟨b.loads, b.rule, mn 200 (IntKind.i64.wrap ((IntKind.i64.wrap (b.most + 1)) + (modF n.2.1 20)))⟩ : DBook)).1.length : Int) < ((mostA b).1.length : Int)))) || ((canL b (chosenL b n.1)) && (!(canL (⟨b.loads, b.rule, mn 200 (IntKind.i64.wrap ((IntKind.i64.wrap (b.most + 1)) + (modF n.2.1 20)))⟩ : DBook) (chosenL b n.1))))) (by kernel_rfl) (fun hc16 => ?_) (fun hc16 => ?_)
    · have hc16' := hc16; try simp only [Bool.and_eq_true, Bool.or_eq_true, Bool.and_eq_false_iff, Bool.or_eq_false_iff, Bool.not_eq_true', Bool.not_eq_false', decide_eq_true_eq, decide_eq_false_iff_not, beq_iff_eq, beq_eq_false_iff_ne, bne_iff_ne, bne_eq_false_iff_eq, ne_eq] at hc16'
      refine WP_seq (WP_region (WPO_all tt_ok (by kernel_rfl) ?_))
      refine WP_ret ?_
      exact ⟨.s (.bool false), by kernel_rfl, fun nV w' h => ⟨by rw [show DeckMoreL b n = false from by unfold DeckMoreL; simp only [hc2, hc4, hc14, hc16, cond_true, cond_false]]; rfl, h.bel⟩⟩
    have hc16' := hc16; try simp only [Bool.and_eq_true, Bool.or_eq_true, Bool.and_eq_false_iff, Bool.or_eq_false_iff, Bool.not_eq_true', Bool.not_eq_false', decide_eq_true_eq, decide_eq_false_iff_not, beq_iff_eq, beq_eq_false_iff_ne, bne_iff_ne, bne_eq_false_iff_eq, ne_eq] at hc16'
    refine WP_skip ?_
    refine WP_seq (WP_region (WPO_run tt_ok 1 (by kernel_rfl) ?_))
    refine CALLR 46 [.g [.ref 0, .int .i64 b.rule, .int .i64 b.most]] (.t [(false, [.ref 9]), (false, [.int .i64 (fewestA b).2])]) 3 1 (fewestA b).1 encI 0 9 (by kernel_rfl) (by kernel_rfl) (goes_of (by kernel_rfl)) (by kernel_rfl) (by kernel_rfl) (by decide) (fun _ => rfl) (fun nV w h => (fewestA_calls (nV 0) b w (h.reads (id := 0) (kd := .ro) (e := 61) (by kernel_rfl)) (h.ents (1, .pf NobodyAt (· = 1)) (fnd_mem (by kernel_rfl))).1 (h.ents (2, .pf LanesAt (· = 0)) (fnd_mem (by kernel_rfl))).1 ).mono fun e w' h1 => weak_fresh h1) ?_
    refine WPO_all tt_ok (by kernel_rfl) ?_
    refine WP_seq (WP_region (WPO_run tt_ok 1 (by kernel_rfl) ?_))
    refine CALLR 46 [.g [.ref 0, .int .i64 b.rule, .int .i64 (mn 200 (IntKind.i64.wrap ((IntKind.i64.wrap (b.most + 1)) + (modF n.2.1 20))))]] (.t [(false, [.ref 10]), (false, [.int .i64 (fewestA (⟨b.loads, b.rule, mn 200 (IntKind.i64.wrap ((IntKind.i64.wrap (b.most + 1)) + (modF n.2.1 20)))⟩ : DBook)).2])]) 3 1 (fewestA (⟨b.loads, b.rule, mn 200 (IntKind.i64.wrap ((IntKind.i64.wrap (b.most + 1)) + (modF n.2.1 20)))⟩ : DBook)).1 encI 0 10 (by kernel_rfl) (by kernel_rfl) (goes_of (by kernel_rfl)) (by kernel_rfl) (by kernel_rfl) (by decide) (fun _ => rfl) (fun nV w h => (fewestA_calls (nV 0) (⟨b.loads, b.rule, mn 200 (IntKind.i64.wrap ((IntKind.i64.wrap (b.most + 1)) + (modF n.2.1 20)))⟩ : DBook) w (h.reads (id := 0) (kd := .ro) (e := 61) (by kernel_rfl)) (h.ents (1, .pf NobodyAt (· = 1)) (fnd_mem (by kernel_rfl))).1 (h.ents (2, .pf LanesAt (· = 0)) (fnd_mem (by kernel_rfl))).1 ).mono fun e w' h1 => weak_fresh h1) ?_
    refine WPO_all tt_ok (by kernel_rfl) ?_
    refine WP_seq (WP_region (WPO_run tt_ok 1 (by kernel_rfl) ?_))
    refine CALLR 47 [.g [.ref 0, .int .i64 b.rule, .int .i64 b.most]] (.t [(false, [.ref 11]), (false, [.int .i64 (neverA b).2])]) 3 1 (neverA b).1 encI 0 11 (by kernel_rfl) (by kernel_rfl) (goes_of (by kernel_rfl)) (by kernel_rfl) (by kernel_rfl) (by decide) (fun _ => rfl) (fun nV w h => (neverA_calls (nV 0) b w (h.reads (id := 0) (kd := .ro) (e := 61) (by kernel_rfl)) (h.ents (1, .pf NobodyAt (· = 1)) (fnd_mem (by kernel_rfl))).1 (h.ents (2, .pf LanesAt (· = 0)) (fnd_mem (by kernel_rfl))).1 ).mono fun e w' h1 => weak_fresh h1) ?_
    refine WPO_all tt_ok (by kernel_rfl) ?_
    refine WP_seq (WP_region (WPO_run tt_ok 1 (by kernel_rfl) ?_))
    refine CALLR 47 [.g [.ref 0, .int .i64 b.rule, .int .i64 (mn 200 (IntKind.i64.wrap ((IntKind.i64.wrap (b.most + 1)) + (modF n.2.1 20))))]] (.t [(false, [.ref 12]), (false, [.int .i64 (neverA (⟨b.loads, b.rule, mn 200 (IntKind.i64.wrap ((IntKind.i64.wrap (b.most + 1)) + (modF n.2.1 20)))⟩ : DBook)).2])]) 3 1 (neverA (⟨b.loads, b.rule, mn 200 (IntKind.i64.wrap ((IntKind.i64.wrap (b.most + 1)) + (modF n.2.1 20)))⟩ : DBook)).1 encI 0 12 (by kernel_rfl) (by kernel_rfl) (goes_of (by kernel_rfl)) (by kernel_rfl) (by kernel_rfl) (by decide) (fun _ => rfl) (fun nV w h => (neverA_calls (nV 0) (⟨b.loads, b.rule, mn 200 (IntKind.i64.wrap ((IntKind.i64.wrap (b.most + 1)) + (modF n.2.1 20)))⟩ : DBook) w (h.reads (id := 0) (kd := .ro) (e := 61) (by kernel_rfl)) (h.ents (1, .pf NobodyAt (· = 1)) (fnd_mem (by kernel_rfl))).1 (h.ents (2, .pf LanesAt (· = 0)) (fnd_mem (by kernel_rfl))).1 ).mono fun e w' h1 => weak_fresh h1) ?_
    refine WPO_all tt_ok (by kernel_rfl) ?_
    refine WP_seq (WP_seq (WP_region (WPO_run tt_ok 14 (by kernel_rfl) ?_)))
    refine CALL 61 [.s (.ref 10)] (.s (.int .i64 (crossingsL (fewestA (⟨b.loads, b.rule, mn 200 (IntKind.i64.wrap ((IntKind.i64.wrap (b.most + 1)) + (modF n.2.1 20)))⟩ : DBook)).1))) [((fewestA (⟨b.loads, b.rule, mn 200 (IntKind.i64.wrap ((IntKind.i64.wrap (b.most + 1)) + (modF n.2.1 20)))⟩ : DBook)).2 != 0, false), ((fewestA b).2 == 0, true), (((neverA b).2 != 0) || ((neverA (⟨b.loads, b.rule, mn 200 (IntKind.i64.wrap ((IntKind.i64.wrap (b.most + 1)) + (modF n.2.1 20)))⟩ : DBook)).2 != 0), false)] (by kernel_rfl) (goes_of (by kernel_rfl)) (by kernel_rfl) (by kernel_rfl) (fun hG nV w h => crossingsL_calls (nV 10) (fewestA (⟨b.loads, b.rule, mn 200 (IntKind.i64.wrap ((IntKind.i64.wrap (b.most + 1)) + (modF n.2.1 20)))⟩ : DBook)).1 w (h.reads (id := 10) (kd := .ro) (e := 3) (by kernel_rfl)) ) ?_
    refine WPO_run tt_ok 1 (by kernel_rfl) ?_
    refine CALL 61 [.s (.ref 9)] (.s (.int .i64 (crossingsL (fewestA b).1))) [((fewestA (⟨b.loads, b.rule, mn 200 (IntKind.i64.wrap ((IntKind.i64.wrap (b.most + 1)) + (modF n.2.1 20)))⟩ : DBook)).2 != 0, false), ((fewestA b).2 == 0, true), (((neverA b).2 != 0) || ((neverA (⟨b.loads, b.rule, mn 200 (IntKind.i64.wrap ((IntKind.i64.wrap (b.most + 1)) + (modF n.2.1 20)))⟩ : DBook)).2 != 0), false)] (by kernel_rfl) (goes_of (by kernel_rfl)) (by kernel_rfl) (by kernel_rfl) (fun hG nV w h => crossingsL_calls (nV 9) (fewestA b).1 w (h.reads (id := 9) (kd := .ro) (e := 3) (by kernel_rfl)) ) ?_
    refine WPO_all tt_ok (by kernel_rfl) ?_
    refine WP_cond ((((neverA b).2 != 0) || ((neverA (⟨b.loads, b.rule, mn 200 (IntKind.i64.wrap ((IntKind.i64.wrap (b.most + 1)) + (modF n.2.1 20)))⟩ : DBook)).2 != 0)) || (((fewestA b).2 == 0) && (((fewestA (⟨b.loads, b.rule, mn 200 (IntKind.i64.wrap ((IntKind.i64.wrap (b.most + 1)) + (modF n.2.1 20)))⟩ : DBook)).2 != 0) || (decide ((crossingsL (fewestA (⟨b.loads, b.rule, mn 200 (IntKind.i64.wrap ((IntKind.i64.wrap (b.most + 1)) + (modF n.2.1 20)))⟩ : DBook)).1) > (crossingsL (fewestA b).1)))))) (by kernel_rfl) (fun hc18 => ?_) (fun hc18 => ?_)
    · have hc18' := hc18; try simp only [Bool.and_eq_true, Bool.or_eq_true, Bool.and_eq_false_iff, Bool.or_eq_false_iff, Bool.not_eq_true', Bool.not_eq_false', decide_eq_true_eq, decide_eq_false_iff_not, beq_iff_eq, beq_eq_false_iff_ne, bne_iff_ne, bne_eq_false_iff_eq, ne_eq] at hc18'
      refine WP_seq (WP_region (WPO_all tt_ok (by kernel_rfl) ?_))
      refine WP_ret ?_
      exact ⟨.s (.bool false), by kernel_rfl, fun nV w' h => ⟨by rw [show DeckMoreL b n = false from by unfold DeckMoreL; simp only [hc2, hc4, hc14, hc16, hc18, cond_true, cond_false]]; rfl, h.bel⟩⟩
    have hc18' := hc18; try simp only [Bool.and_eq_true, Bool.or_eq_true, Bool.and_eq_false_iff, Bool.or_eq_false_iff, Bool.not_eq_true', Bool.not_eq_false', decide_eq_true_eq, decide_eq_false_iff_not, beq_iff_eq, beq_eq_false_iff_ne, bne_iff_ne, bne_eq_false_iff_eq, ne_eq] at hc18'
    refine WP_skip ?_
    refine WP_seq (WP_seq (WP_region (WPO_all tt_ok (by kernel_rfl) ?_)))
    refine WP_fact (p := ((neverA (⟨b.loads, b.rule, mn 200 (IntKind.i64.wrap ((IntKind.i64.wrap (b.most + 1)) + (modF n.2.1 20)))⟩ : DBook)).1.length : Int) ≤ 9223372036854775807) (fun nV aV wV hs => Reads.len (sz := 1) (enc := encI) (z := 0) (hs.heap.reads (id := 12) (kd := .ro) (e := 3) (by kernel_rfl))) (fun hN2 => ?_)
    refine WP_loopA (ρ := Bool) (DeckMoreL_c2 b n) (DeckMoreL_b2 b n) (neverA (⟨b.loads, b.rule, mn 200 (IntKind.i64.wrap ((IntKind.i64.wrap (b.most + 1)) + (modF n.2.1 20)))⟩ : DBook)).1.length () (fun k : Nat => (k : Int)) (fun (ci : Int) (zz : Unit) => ⟨160, [(18, [], .s (.int .i64 ci)), (16, [], .s (.ref 12)), (14, [], .s (.ref 11))], [(12, .sl .ro 3 1 (neverA (⟨b.loads, b.rule, mn 200 (IntKind.i64.wrap ((IntKind.i64.wrap (b.most + 1)) + (modF n.2.1 20)))⟩ : DBook)).1 encI 0), (11, .sl .ro 3 1 (neverA b).1 encI 0), (10, .sl .ro 3 1 (fewestA (⟨b.loads, b.rule, mn 200 (IntKind.i64.wrap ((IntKind.i64.wrap (b.most + 1)) + (modF n.2.1 20)))⟩ : DBook)).1 encI 0), (9, .sl .ro 3 1 (fewestA b).1 encI 0), (8, .sl .ro 3 1 (mostA (⟨b.loads, b.rule, mn 200 (IntKind.i64.wrap ((IntKind.i64.wrap (b.most + 1)) + (modF n.2.1 20)))⟩ : DBook)).1 encI 0), (7, .sl .ro 3 1 (mostA b).1 encI 0), (6, .sl .own 3 1 (chosenL b n.1) encI 0), (5, .box 24 [.ref 0, .int .i64 b.rule, .int .i64 (mn 200 (IntKind.i64.wrap ((IntKind.i64.wrap (b.most + 1)) + (modF n.2.1 20))))]), (4, .box 76 [.int .i64 n.1, .int .i64 n.2.1, .int .i64 n.2.2]), (3, .box 24 [.ref 0, .int .i64 b.rule, .int .i64 b.most]), (0, .sl .ro 61 3 b.loads encLoad zLoad), (1, .pf NobodyAt (· = 1)), (2, .pf LanesAt (· = 0))], 13, []⟩) (fun zz : Unit => ⟨160, [], [(12, .sl .ro 3 1 (neverA (⟨b.loads, b.rule, mn 200 (IntKind.i64.wrap ((IntKind.i64.wrap (b.most + 1)) + (modF n.2.1 20)))⟩ : DBook)).1 encI 0), (11, .sl .ro 3 1 (neverA b).1 encI 0), (10, .sl .ro 3 1 (fewestA (⟨b.loads, b.rule, mn 200 (IntKind.i64.wrap ((IntKind.i64.wrap (b.most + 1)) + (modF n.2.1 20)))⟩ : DBook)).1 encI 0), (9, .sl .ro 3 1 (fewestA b).1 encI 0), (8, .sl .ro 3 1 (mostA (⟨b.loads, b.rule, mn 200 (IntKind.i64.wrap ((IntKind.i64.wrap (b.most + 1)) + (modF n.2.1 20)))⟩ : DBook)).1 encI 0), (7, .sl .ro 3 1 (mostA b).1 encI 0), (6, .sl .own 3 1 (chosenL b n.1) encI 0), (5, .box 24 [.ref 0, .int .i64 b.rule, .int .i64 (mn 200 (IntKind.i64.wrap ((IntKind.i64.wrap (b.most + 1)) + (modF n.2.1 20))))]), (4, .box 76 [.int .i64 n.1, .int .i64 n.2.1, .int .i64 n.2.2]), (3, .box 24 [.ref 0, .int .i64 b.rule, .int .i64 b.most]), (0, .sl .ro 61 3 b.loads encLoad zLoad), (1, .pf NobodyAt (· = 1)), (2, .pf LanesAt (· = 0))], 13, []⟩) (fun k zz => True) trivial ⟨0, rfl, Le_sel (ts := [18, 16, 14]) (ids := [12, 11, 10, 9, 8, 7, 6, 5, 4, 3, 0, 1, 2]) (nx := 13) (by kernel_rfl)⟩ ?_ ?_
    · intro k2 zz hn2 hp2 hi2 Q2 hq2 ho2
      refine WP_seq (WP_seq (WP_region (WPO_all tt_ok (by kernel_rfl) ?_)))
      refine WP_cond (decide ((k2 : Int) < ((neverA (⟨b.loads, b.rule, mn 200 (IntKind.i64.wrap ((IntKind.i64.wrap (b.most + 1)) + (modF n.2.1 20)))⟩ : DBook)).1.length : Int))) (by kernel_rfl) (fun hc19 => ?_) (fun hc19 => ?_)
      rotate_left
      · refine WP_exit ?_
        show Q2 (.exit 1) _
        exact LA_exit hq2 () (loopR_end hi2 hc19) ⟨k2, hn2, hp2⟩ (Le_sel (ts := []) (ids := [12, 11, 10, 9, 8, 7, 6, 5, 4, 3, 0, 1, 2]) (nx := 13) (by kernel_rfl))
      have hc19' := of_decide_eq_true hc19
      have hk2 : k2 < (neverA (⟨b.loads, b.rule, mn 200 (IntKind.i64.wrap ((IntKind.i64.wrap (b.most + 1)) + (modF n.2.1 20)))⟩ : DBook)).1.length := by omega
      refine WP_skip ?_
      refine WP_seq (WP_block ?_)
      refine WP_seq (WP_region (WPO_run tt_ok 3 (by kernel_rfl) ?_))
      refine IX tt_ok (k2 : Int) (neverA (⟨b.loads, b.rule, mn 200 (IntKind.i64.wrap ((IntKind.i64.wrap (b.most + 1)) + (modF n.2.1 20)))⟩ : DBook)).1.length [] (by kernel_rfl) (fun hG => ⟨by omega, by omega⟩) ?_
      refine WPO_run tt_ok 1 (by kernel_rfl) ?_
      refine CALL 56 [.s (.ref 11), .s (.int .i64 ((neverA (⟨b.loads, b.rule, mn 200 (IntKind.i64.wrap ((IntKind.i64.wrap (b.most + 1)) + (modF n.2.1 20)))⟩ : DBook)).1.getD k2 0))] (.s (.int .i64 (atF (neverA b).1 ((neverA (⟨b.loads, b.rule, mn 200 (IntKind.i64.wrap ((IntKind.i64.wrap (b.most + 1)) + (modF n.2.1 20)))⟩ : DBook)).1.getD k2 0)))) [] (by kernel_rfl) (goes_of (by kernel_rfl)) (by kernel_rfl) (by kernel_rfl) (fun hG nV w h => atF_calls (nV 11) (neverA b).1 ((neverA (⟨b.loads, b.rule, mn 200 (IntKind.i64.wrap ((IntKind.i64.wrap (b.most + 1)) + (modF n.2.1 20)))⟩ : DBook)).1.getD k2 0) w (h.reads (id := 11) (kd := .ro) (e := 3) (by kernel_rfl)) ) ?_
      refine WPO_all tt_ok (by kernel_rfl) ?_
      refine WP_cond (decide ((atF (neverA b).1 ((neverA (⟨b.loads, b.rule, mn 200 (IntKind.i64.wrap ((IntKind.i64.wrap (b.most + 1)) + (modF n.2.1 20)))⟩ : DBook)).1.getD k2 0)) < 0)) (by kernel_rfl) (fun hc21 => ?_) (fun hc21 => ?_)
      · have hc21' := of_decide_eq_true hc21
        refine WP_seq (WP_region (WPO_all tt_ok (by kernel_rfl) ?_))
        refine WP_ret ?_
        show Q2 .ret _
        refine LA_ret hq2 ?_
        have he22 := loopR_ret (r := false) hi2 hk2 hc19 (by unfold DeckMoreL_b2; simp only [hc21, cond_true, cond_false])
        exact ⟨.s (.bool false), by kernel_rfl, fun nV w' h => ⟨by rw [show DeckMoreL b n = false from by unfold DeckMoreL; simp only [hc2, hc4, hc14, hc16, hc18, he22, cond_true, cond_false]]; rfl, h.bel⟩⟩
      have hc21' := of_decide_eq_false hc21
      refine WP_skip ?_
      refine WP_region (WPO_all tt_ok (by kernel_rfl) ?_)
      show Q2 .normal _
      exact LA_go hq2 (ci := IntKind.i64.wrap ((k2 : Int) + 1)) () hk2 (by show _ = ((k2 + 1 : Nat) : Int); rw [wrapI (by omega) (by omega)]; omega) (loopR_go hi2 hk2 hc19 (by unfold DeckMoreL_b2; simp only [hc21, cond_true, cond_false])) trivial (Le_sel (ts := [18, 16, 14]) (ids := [12, 11, 10, 9, 8, 7, 6, 5, 4, 3, 0, 1, 2]) (nx := 13) (by kernel_rfl))
    intro zz hR2 hP2 s' hl
    refine WP_le hl ?_
    clear hl s'
    refine WP_seq (WP_region (CALL 21 [] (.s (.bool stowedL)) [] (by kernel_rfl) (goes_of (by kernel_rfl)) (by kernel_rfl) (by kernel_rfl) (fun hG nV w h => stowedL_calls   w (h.ents (1, .pf NobodyAt (· = 1)) (fnd_mem (by kernel_rfl))).1 (h.ents (2, .pf LanesAt (· = 0)) (fnd_mem (by kernel_rfl))).1 ) ?_))
    refine WPO_all tt_ok (by kernel_rfl) ?_
    refine WP_ret ?_
    exact ⟨.s (.bool stowedL), by kernel_rfl, fun nV w' h => ⟨by rw [show DeckMoreL b n = stowedL from by unfold DeckMoreL; first | (simp only [hc2, hc4, hc14, hc16, hc18, hR2, cond_true, cond_false]; done) | ((first | rw [bif_t hc2] | rw [bif_f hc2] | skip); (first | rw [bif_t hc4] | rw [bif_f hc4] | skip); (first | rw [bif_t hc14] | rw [bif_f hc14] | skip); (first | rw [bif_t hc16] | rw [bif_f hc16] | skip); (first | rw [bif_t hc18] | rw [bif_f hc18] | skip); (first | rw [bif_t hR2] | rw [bif_f hR2] | skip); first | done | rfl)]; rfl, h.bel⟩⟩
  have hc14' := hc14; try simp only [Bool.and_eq_true, Bool.or_eq_true, Bool.and_eq_false_iff, Bool.or_eq_false_iff, Bool.not_eq_true', Bool.not_eq_false', decide_eq_true_eq, decide_eq_false_iff_not, beq_iff_eq, beq_eq_false_iff_ne, bne_iff_ne, bne_eq_false_iff_eq, ne_eq] at hc14'
  refine WP_drawHM 12 [] [5] (by kernel_rfl) (by kernel_rfl) ?_
  refine H_run tt_ok [0, 1, 2, 3, 4] (f' := 7) (by kernel_rfl) (by kernel_rfl) (by kernel_rfl) ?_
  refine H_IX tt_ok 5 (modF n.2.1 (b.loads.length : Int)) b.loads.length [] (by kernel_rfl) (fun hG => ⟨by omega, by omega⟩) (by kernel_rfl) (by kernel_rfl) ?_
  refine H_AIX tt_ok 8 2 3 [] (by kernel_rfl) (fun hG => ⟨by omega, by omega⟩) (by kernel_rfl) (by kernel_rfl) ?_
  refine H_ARD tt_ok 9 4 2 1 0 [] 76 [.int .i64 n.1, .int .i64 n.2.1, .int .i64 n.2.2] (.int .i64 n.2.2) (by kernel_rfl) (by kernel_rfl) (by kernel_rfl) (fun _ => rfl) (by kernel_rfl) (by kernel_rfl) (by kernel_rfl) ?_
  refine H_step 6 (by kernel_rfl) (by kernel_rfl) (fun hfz cx' hx1 hx2 => ?_)
  refine WPO_all tt_ok (by kernel_rfl) ?_
  refine ⟨rfl, (hfz.fnds [5, 4, 3, 0, 1, 2] (by kernel_rfl) ⟨by kernel_rfl, by kernel_rfl, by kernel_rfl, by kernel_rfl, by kernel_rfl, by kernel_rfl, trivial⟩ (by kernel_rfl)), ?_⟩
  refine H_run tt_ok [7] (f' := 2) (by kernel_rfl) (by kernel_rfl) (by kernel_rfl) ?_
  refine H_step 10 (by kernel_rfl) (by kernel_rfl) (fun hfz cx' hx1 hx2 => ?_)
  refine CALL 60 [.g [.int .i64 (b.loads.getD (modF n.2.1 (b.loads.length : Int)).toNat zLoad).w.lo, .int .i64 (b.loads.getD (modF n.2.1 (b.loads.length : Int)).toNat zLoad).w.hi], .s (.int .i64 n.2.2)] (.s (.int .i64 (withF (b.loads.getD (modF n.2.1 (b.loads.length : Int)).toNat zLoad).w n.2.2))) [] (by kernel_rfl) (goes_of (by kernel_rfl)) (by kernel_rfl) (by kernel_rfl) (fun hG nV w h => withF_calls  (b.loads.getD (modF n.2.1 (b.loads.length : Int)).toNat zLoad).w n.2.2 w  ) ?_
  refine WPO_end (by kernel_rfl) ⟨rfl, (hfz.fnds [5, 4, 3, 0, 1, 2] (by kernel_rfl) ⟨by kernel_rfl, by kernel_rfl, by kernel_rfl, by kernel_rfl, by kernel_rfl, by kernel_rfl, trivial⟩ (by kernel_rfl)), ?_⟩
  refine H_step 11 (by kernel_rfl) (by kernel_rfl) (fun hfz cx' hx1 hx2 => ?_)
  refine CALLO 59 [.g [.ref 0, .int .i64 b.rule, .int .i64 b.most], .s (.int .i64 (modF n.2.1 (b.loads.length : Int))), .s (.int .i64 (withF (b.loads.getD (modF n.2.1 (b.loads.length : Int)).toNat zLoad).w n.2.2))] (.g [.ref 6, .int .i64 (weighedL b (modF n.2.1 (b.loads.length : Int)) (withF (b.loads.getD (modF n.2.1 (b.loads.length : Int)).toNat zLoad).w n.2.2)).rule, .int .i64 (weighedL b (modF n.2.1 (b.loads.length : Int)) (withF (b.loads.getD (modF n.2.1 (b.loads.length : Int)).toNat zLoad).w n.2.2)).most]) 61 3 (weighedL b (modF n.2.1 (b.loads.length : Int)) (withF (b.loads.getD (modF n.2.1 (b.loads.length : Int)).toNat zLoad).w n.2.2)).loads encLoad zLoad 6 (by kernel_rfl) (by kernel_rfl) (goes_of (by kernel_rfl)) (by kernel_rfl) (by kernel_rfl) (fun _ => rfl) ((fun nV w h => weighedL_calls (nV 0) b (modF n.2.1 (b.loads.length : Int)) (withF (b.loads.getD (modF n.2.1 (b.loads.length : Int)).toNat zLoad).w n.2.2) w (h.reads (id := 0) (kd := .ro) (e := 61) (by kernel_rfl)) (by first | assumption | omega) (by first | assumption | omega))) ?_
  refine WPO_end (by kernel_rfl) ⟨rfl, (hfz.fnds [5, 4, 3, 0, 1, 2] (by kernel_rfl) ⟨by kernel_rfl, by kernel_rfl, by kernel_rfl, by kernel_rfl, by kernel_rfl, by kernel_rfl, trivial⟩ (by kernel_rfl)), ?_⟩
  refine H_done (by kernel_rfl) ?_
  refine ⟨(by kernel_rfl), ?_⟩
  refine H_step 12 (by kernel_rfl) (by kernel_rfl) (fun hfz cx' hx1 hx2 => ?_)
  refine WPO_all tt_ok (by kernel_rfl) ?_
  refine ⟨rfl, (hfz.fnds [6, 4, 3, 0, 1, 2] (by kernel_rfl) ⟨by kernel_rfl, by kernel_rfl, by kernel_rfl, by kernel_rfl, by kernel_rfl, by kernel_rfl, trivial⟩ (by kernel_rfl)), ?_⟩
  refine H_done (by kernel_rfl) ?_
  refine WP_seq (WP_region (WPO_run tt_ok 1 (by kernel_rfl) ?_))
  refine AIX tt_ok 0 3 [] (by kernel_rfl) (fun hG => ⟨by omega, by omega⟩) ?_
  refine ARD tt_ok 4 0 1 0 [] 76 [.int .i64 n.1, .int .i64 n.2.1, .int .i64 n.2.2] (.int .i64 n.1) (by kernel_rfl) (by kernel_rfl) (by kernel_rfl) (fun _ => rfl) ?_
  refine CALLO 28 [.g [.ref 0, .int .i64 b.rule, .int .i64 b.most], .s (.int .i64 n.1)] (.s (.ref 7)) 3 1 (chosenL b n.1) encI 0 7 (by kernel_rfl) (by kernel_rfl) (goes_of (by kernel_rfl)) (by kernel_rfl) (by kernel_rfl) (fun _ => rfl) ((fun nV w h => chosenL_calls (nV 0) b n.1 w (h.reads (id := 0) (kd := .ro) (e := 61) (by kernel_rfl)) (by first | assumption | omega))) ?_
  refine WPO_all tt_ok (by kernel_rfl) ?_
  refine WP_seq (WP_region (WPO_run tt_ok 1 (by kernel_rfl) ?_))
  refine CALLR 45 [.g [.ref 0, .int .i64 b.rule, .int .i64 b.most]] (.t [(false, [.ref 8]), (false, [.int .i64 (mostA b).2])]) 3 1 (mostA b).1 encI 0 8 (by kernel_rfl) (by kernel_rfl) (goes_of (by kernel_rfl)) (by kernel_rfl) (by kernel_rfl) (by decide) (fun _ => rfl) (fun nV w h => (mostA_calls (nV 0) b w (h.reads (id := 0) (kd := .ro) (e := 61) (by kernel_rfl)) (h.ents (1, .pf NobodyAt (· = 1)) (fnd_mem (by kernel_rfl))).1 (h.ents (2, .pf LanesAt (· = 0)) (fnd_mem (by kernel_rfl))).1 ).mono fun e w' h1 => weak_fresh h1) ?_
  refine WPO_all tt_ok (by kernel_rfl) ?_
  refine WP_seq (WP_region (WPO_run tt_ok 1 (by kernel_rfl) ?_))
  refine CALLR 45 [.g [.ref 6, .int .i64 (weighedL b (modF n.2.1 (b.loads.length : Int)) (withF (b.loads.getD (modF n.2.1 (b.loads.length : Int)).toNat zLoad).w n.2.2)).rule, .int .i64 (weighedL b (modF n.2.1 (b.loads.length : Int)) (withF (b.loads.getD (modF n.2.1 (b.loads.length : Int)).toNat zLoad).w n.2.2)).most]] (.t [(false, [.ref 9]), (false, [.int .i64 (mostA (weighedL b (modF n.2.1 (b.loads.length : Int)) (withF (b.loads.getD (modF n.2.1 (b.loads.length : Int)).toNat zLoad).w n.2.2))).2])]) 3 1 (mostA (weighedL b (modF n.2.1 (b.loads.length : Int)) (withF (b.loads.getD (modF n.2.1 (b.loads.length : Int)).toNat zLoad).w n.2.2))).1 encI 0 9 (by kernel_rfl) (by kernel_rfl) (goes_of (by kernel_rfl)) (by kernel_rfl) (by kernel_rfl) (by decide) (fun _ => rfl) (fun nV w h => (mostA_calls (nV 6) (weighedL b (modF n.2.1 (b.loads.length : Int)) (withF (b.loads.getD (modF n.2.1 (b.loads.length : Int)).toNat zLoad).w n.2.2)) w (h.reads (id := 6) (kd := .own) (e := 61) (by kernel_rfl)) (h.ents (1, .pf NobodyAt (· = 1)) (fnd_mem (by kernel_rfl))).1 (h.ents (2, .pf LanesAt (· = 0)) (fnd_mem (by kernel_rfl))).1 ).mono fun e w' h1 => weak_fresh h1) ?_
  refine WPO_all tt_ok (by kernel_rfl) ?_
  refine WP_seq (WP_seq (WP_region (WPO_run tt_ok 16 (by kernel_rfl) ?_)))
  refine CALL 51 [.g [.ref 0, .int .i64 b.rule, .int .i64 b.most], .s (.ref 7)] (.s (.bool (canL b (chosenL b n.1)))) [((((mostA b).2 != 0) || ((mostA (weighedL b (modF n.2.1 (b.loads.length : Int)) (withF (b.loads.getD (modF n.2.1 (b.loads.length : Int)).toNat zLoad).w n.2.2))).2 != 0)) || (decide (((mostA (weighedL b (modF n.2.1 (b.loads.length : Int)) (withF (b.loads.getD (modF n.2.1 (b.loads.length : Int)).toNat zLoad).w n.2.2))).1.length : Int) < ((mostA b).1.length : Int))), false)] (by kernel_rfl) (goes_of (by kernel_rfl)) (by kernel_rfl) (by kernel_rfl) (fun hG nV w h => canL_calls (nV 0) (nV 7) b (chosenL b n.1) w (h.reads (id := 0) (kd := .ro) (e := 61) (by kernel_rfl)) (h.reads (id := 7) (kd := .own) (e := 3) (by kernel_rfl)) (h.ents (1, .pf NobodyAt (· = 1)) (fnd_mem (by kernel_rfl))).1 (h.ents (2, .pf LanesAt (· = 0)) (fnd_mem (by kernel_rfl))).1 ) ?_
  refine WPO_run tt_ok 3 (by kernel_rfl) ?_
  refine CALL 51 [.g [.ref 6, .int .i64 (weighedL b (modF n.2.1 (b.loads.length : Int)) (withF (b.loads.getD (modF n.2.1 (b.loads.length : Int)).toNat zLoad).w n.2.2)).rule, .int .i64 (weighedL b (modF n.2.1 (b.loads.length : Int)) (withF (b.loads.getD (modF n.2.1 (b.loads.length : Int)).toNat zLoad).w n.2.2)).most], .s (.ref 7)] (.s (.bool (canL (weighedL b (modF n.2.1 (b.loads.length : Int)) (withF (b.loads.getD (modF n.2.1 (b.loads.length : Int)).toNat zLoad).w n.2.2)) (chosenL b n.1)))) [((canL b (chosenL b n.1)), true), ((((mostA b).2 != 0) || ((mostA (weighedL b (modF n.2.1 (b.loads.length : Int)) (withF (b.loads.getD (modF n.2.1 (b.loads.length : Int)).toNat zLoad).w n.2.2))).2 != 0)) || (decide (((mostA (weighedL b (modF n.2.1 (b.loads.length : Int)) (withF (b.loads.getD (modF n.2.1 (b.loads.length : Int)).toNat zLoad).w n.2.2))).1.length : Int) < ((mostA b).1.length : Int))), false)] (by kernel_rfl) (goes_of (by kernel_rfl)) (by kernel_rfl) (by kernel_rfl) (fun hG nV w h => canL_calls (nV 6) (nV 7) (weighedL b (modF n.2.1 (b.loads.length : Int)) (withF (b.loads.getD (modF n.2.1 (b.loads.length : Int)).toNat zLoad).w n.2.2)) (chosenL b n.1) w (h.reads (id := 6) (kd := .own) (e := 61) (by kernel_rfl)) (h.reads (id := 7) (kd := .own) (e := 3) (by kernel_rfl)) (h.ents (1, .pf NobodyAt (· = 1)) (fnd_mem (by kernel_rfl))).1 (h.ents (2, .pf LanesAt (· = 0)) (fnd_mem (by kernel_rfl))).1 ) ?_
  refine WPO_all tt_ok (by kernel_rfl) ?_
  refine WP_cond (((((mostA b).2 != 0) || ((mostA (weighedL b (modF n.2.1 (b.loads.length : Int)) (withF (b.loads.getD (modF n.2.1 (b.loads.length : Int)).toNat zLoad).w n.2.2))).2 != 0)) || (decide (((mostA (weighedL b (modF n.2.1 (b.loads.length : Int)) (withF (b.loads.getD (modF n.2.1 (b.loads.length : Int)).toNat zLoad).w n.2.2))).1.length : Int) < ((mostA b).1.length : Int)))) || ((canL b (chosenL b n.1)) && (!(canL (weighedL b (modF n.2.1 (b.loads.length : Int)) (withF (b.loads.getD (modF n.2.1 (b.loads.length : Int)).toNat zLoad).w n.2.2)) (chosenL b n.1))))) (by kernel_rfl) (fun hc24 => ?_) (fun hc24 => ?_)
  · have hc24' := hc24; try simp only [Bool.and_eq_true, Bool.or_eq_true, Bool.and_eq_false_iff, Bool.or_eq_false_iff, Bool.not_eq_true', Bool.not_eq_false', decide_eq_true_eq, decide_eq_false_iff_not, beq_iff_eq, beq_eq_false_iff_ne, bne_iff_ne, bne_eq_false_iff_eq, ne_eq] at hc24'
    refine WP_seq (WP_region (WPO_all tt_ok (by kernel_rfl) ?_))
    refine WP_ret ?_
    exact ⟨.s (.bool false), by kernel_rfl, fun nV w' h => ⟨by rw [show DeckMoreL b n = false from by unfold DeckMoreL; simp only [hc2, hc4, hc14, hc24, cond_true, cond_false]]; rfl, h.bel⟩⟩
  have hc24' := hc24; try simp only [Bool.and_eq_true, Bool.or_eq_true, Bool.and_eq_false_iff, Bool.or_eq_false_iff, Bool.not_eq_true', Bool.not_eq_false', decide_eq_true_eq, decide_eq_false_iff_not, beq_iff_eq, beq_eq_false_iff_ne, bne_iff_ne, bne_eq_false_iff_eq, ne_eq] at hc24'
  refine WP_skip ?_
  refine WP_seq (WP_region (WPO_run tt_ok 1 (by kernel_rfl) ?_))
  refine CALLR 46 [.g [.ref 0, .int .i64 b.rule, .int .i64 b.most]] (.t [(false, [.ref 10]), (false, [.int .i64 (fewestA b).2])]) 3 1 (fewestA b).1 encI 0 10 (by kernel_rfl) (by kernel_rfl) (goes_of (by kernel_rfl)) (by kernel_rfl) (by kernel_rfl) (by decide) (fun _ => rfl) (fun nV w h => (fewestA_calls (nV 0) b w (h.reads (id := 0) (kd := .ro) (e := 61) (by kernel_rfl)) (h.ents (1, .pf NobodyAt (· = 1)) (fnd_mem (by kernel_rfl))).1 (h.ents (2, .pf LanesAt (· = 0)) (fnd_mem (by kernel_rfl))).1 ).mono fun e w' h1 => weak_fresh h1) ?_
  refine WPO_all tt_ok (by kernel_rfl) ?_
  refine WP_seq (WP_region (WPO_run tt_ok 1 (by kernel_rfl) ?_))
  refine CALLR 46 [.g [.ref 6, .int .i64 (weighedL b (modF n.2.1 (b.loads.length : Int)) (withF (b.loads.getD (modF n.2.1 (b.loads.length : Int)).toNat zLoad).w n.2.2)).rule, .int .i64 (weighedL b (modF n.2.1 (b.loads.length : Int)) (withF (b.loads.getD (modF n.2.1 (b.loads.length : Int)).toNat zLoad).w n.2.2)).most]] (.t [(false, [.ref 11]), (false, [.int .i64 (fewestA (weighedL b (modF n.2.1 (b.loads.length : Int)) (withF (b.loads.getD (modF n.2.1 (b.loads.length : Int)).toNat zLoad).w n.2.2))).2])]) 3 1 (fewestA (weighedL b (modF n.2.1 (b.loads.length : Int)) (withF (b.loads.getD (modF n.2.1 (b.loads.length : Int)).toNat zLoad).w n.2.2))).1 encI 0 11 (by kernel_rfl) (by kernel_rfl) (goes_of (by kernel_rfl)) (by kernel_rfl) (by kernel_rfl) (by decide) (fun _ => rfl) (fun nV w h => (fewestA_calls (nV 6) (weighedL b (modF n.2.1 (b.loads.length : Int)) (withF (b.loads.getD (modF n.2.1 (b.loads.length : Int)).toNat zLoad).w n.2.2)) w (h.reads (id := 6) (kd := .own) (e := 61) (by kernel_rfl)) (h.ents (1, .pf NobodyAt (· = 1)) (fnd_mem (by kernel_rfl))).1 (h.ents (2, .pf LanesAt (· = 0)) (fnd_mem (by kernel_rfl))).1 ).mono fun e w' h1 => weak_fresh h1) ?_
  refine WPO_all tt_ok (by kernel_rfl) ?_
  refine WP_seq (WP_region (WPO_run tt_ok 1 (by kernel_rfl) ?_))
  refine CALLR 47 [.g [.ref 0, .int .i64 b.rule, .int .i64 b.most]] (.t [(false, [.ref 12]), (false, [.int .i64 (neverA b).2])]) 3 1 (neverA b).1 encI 0 12 (by kernel_rfl) (by kernel_rfl) (goes_of (by kernel_rfl)) (by kernel_rfl) (by kernel_rfl) (by decide) (fun _ => rfl) (fun nV w h => (neverA_calls (nV 0) b w (h.reads (id := 0) (kd := .ro) (e := 61) (by kernel_rfl)) (h.ents (1, .pf NobodyAt (· = 1)) (fnd_mem (by kernel_rfl))).1 (h.ents (2, .pf LanesAt (· = 0)) (fnd_mem (by kernel_rfl))).1 ).mono fun e w' h1 => weak_fresh h1) ?_
  refine WPO_all tt_ok (by kernel_rfl) ?_
  refine WP_seq (WP_region (WPO_run tt_ok 1 (by kernel_rfl) ?_))
  refine CALLR 47 [.g [.ref 6, .int .i64 (weighedL b (modF n.2.1 (b.loads.length : Int)) (withF (b.loads.getD (modF n.2.1 (b.loads.length : Int)).toNat zLoad).w n.2.2)).rule, .int .i64 (weighedL b (modF n.2.1 (b.loads.length : Int)) (withF (b.loads.getD (modF n.2.1 (b.loads.length : Int)).toNat zLoad).w n.2.2)).most]] (.t [(false, [.ref 13]), (false, [.int .i64 (neverA (weighedL b (modF n.2.1 (b.loads.length : Int)) (withF (b.loads.getD (modF n.2.1 (b.loads.length : Int)).toNat zLoad).w n.2.2))).2])]) 3 1 (neverA (weighedL b (modF n.2.1 (b.loads.length : Int)) (withF (b.loads.getD (modF n.2.1 (b.loads.length : Int)).toNat zLoad).w n.2.2))).1 encI 0 13 (by kernel_rfl) (by kernel_rfl) (goes_of (by kernel_rfl)) (by kernel_rfl) (by kernel_rfl) (by decide) (fun _ => rfl) (fun nV w h => (neverA_calls (nV 6) (weighedL b (modF n.2.1 (b.loads.length : Int)) (withF (b.loads.getD (modF n.2.1 (b.loads.length : Int)).toNat zLoad).w n.2.2)) w (h.reads (id := 6) (kd := .own) (e := 61) (by kernel_rfl)) (h.ents (1, .pf NobodyAt (· = 1)) (fnd_mem (by kernel_rfl))).1 (h.ents (2, .pf LanesAt (· = 0)) (fnd_mem (by kernel_rfl))).1 ).mono fun e w' h1 => weak_fresh h1) ?_
  refine WPO_all tt_ok (by kernel_rfl) ?_
  refine WP_seq (WP_seq (WP_region (WPO_run tt_ok 14 (by kernel_rfl) ?_)))
  refine CALL 61 [.s (.ref 11)] (.s (.int .i64 (crossingsL (fewestA (weighedL b (modF n.2.1 (b.loads.length : Int)) (withF (b.loads.getD (modF n.2.1 (b.loads.length : Int)).toNat zLoad).w n.2.2))).1))) [((fewestA (weighedL b (modF n.2.1 (b.loads.length : Int)) (withF (b.loads.getD (modF n.2.1 (b.loads.length : Int)).toNat zLoad).w n.2.2))).2 != 0, false), ((fewestA b).2 == 0, true), (((neverA b).2 != 0) || ((neverA (weighedL b (modF n.2.1 (b.loads.length : Int)) (withF (b.loads.getD (modF n.2.1 (b.loads.length : Int)).toNat zLoad).w n.2.2))).2 != 0), false)] (by kernel_rfl) (goes_of (by kernel_rfl)) (by kernel_rfl) (by kernel_rfl) (fun hG nV w h => crossingsL_calls (nV 11) (fewestA (weighedL b (modF n.2.1 (b.loads.length : Int)) (withF (b.loads.getD (modF n.2.1 (b.loads.length : Int)).toNat zLoad).w n.2.2))).1 w (h.reads (id := 11) (kd := .ro) (e := 3) (by kernel_rfl)) ) ?_
  refine WPO_run tt_ok 1 (by kernel_rfl) ?_
  refine CALL 61 [.s (.ref 10)] (.s (.int .i64 (crossingsL (fewestA b).1))) [((fewestA (weighedL b (modF n.2.1 (b.loads.length : Int)) (withF (b.loads.getD (modF n.2.1 (b.loads.length : Int)).toNat zLoad).w n.2.2))).2 != 0, false), ((fewestA b).2 == 0, true), (((neverA b).2 != 0) || ((neverA (weighedL b (modF n.2.1 (b.loads.length : Int)) (withF (b.loads.getD (modF n.2.1 (b.loads.length : Int)).toNat zLoad).w n.2.2))).2 != 0), false)] (by kernel_rfl) (goes_of (by kernel_rfl)) (by kernel_rfl) (by kernel_rfl) (fun hG nV w h => crossingsL_calls (nV 10) (fewestA b).1 w (h.reads (id := 10) (kd := .ro) (e := 3) (by kernel_rfl)) ) ?_
  refine WPO_all tt_ok (by kernel_rfl) ?_
  refine WP_cond ((((neverA b).2 != 0) || ((neverA (weighedL b (modF n.2.1 (b.loads.length : Int)) (withF (b.loads.getD (modF n.2.1 (b.loads.length : Int)).toNat zLoad).w n.2.2))).2 != 0)) || (((fewestA b).2 == 0) && (((fewestA (weighedL b (modF n.2.1 (b.loads.length : Int)) (withF (b.loads.getD (modF n.2.1 (b.loads.length : Int)).toNat zLoad).w n.2.2))).2 != 0) || (decide ((crossingsL (fewestA (weighedL b (modF n.2.1 (b.loads.length : Int)) (withF (b.loads.getD (modF n.2.1 (b.loads.length : Int)).toNat zLoad).w n.2.2))).1) > (crossingsL (fewestA b).1)))))) (by kernel_rfl) (fun hc26 => ?_) (fun hc26 => ?_)
  · have hc26' := hc26; try simp only [Bool.and_eq_true, Bool.or_eq_true, Bool.and_eq_false_iff, Bool.or_eq_false_iff, Bool.not_eq_true', Bool.not_eq_false', decide_eq_true_eq, decide_eq_false_iff_not, beq_iff_eq, beq_eq_false_iff_ne, bne_iff_ne, bne_eq_false_iff_eq, ne_eq] at hc26'
    refine WP_seq (WP_region (WPO_all tt_ok (by kernel_rfl) ?_))
    refine WP_ret ?_
    exact ⟨.s (.bool false), by kernel_rfl, fun nV w' h => ⟨by rw [show DeckMoreL b n = false from by unfold DeckMoreL; simp only [hc2, hc4, hc14, hc24, hc26, cond_true, cond_false]]; rfl, h.bel⟩⟩
  have hc26' := hc26; try simp only [Bool.and_eq_true, Bool.or_eq_true, Bool.and_eq_false_iff, Bool.or_eq_false_iff, Bool.not_eq_true', Bool.not_eq_false', decide_eq_true_eq, decide_eq_false_iff_not, beq_iff_eq, beq_eq_false_iff_ne, bne_iff_ne, bne_eq_false_iff_eq, ne_eq] at hc26'
  refine WP_skip ?_
  refine WP_seq (WP_seq (WP_region (WPO_all tt_ok (by kernel_rfl) ?_)))
  refine WP_fact (p := ((neverA (weighedL b (modF n.2.1 (b.loads.length : Int)) (withF (b.loads.getD (modF n.2.1 (b.loads.length : Int)).toNat zLoad).w n.2.2))).1.length : Int) ≤ 9223372036854775807) (fun nV aV wV hs => Reads.len (sz := 1) (enc := encI) (z := 0) (hs.heap.reads (id := 13) (kd := .ro) (e := 3) (by kernel_rfl))) (fun hN3 => ?_)
  refine WP_loopA (ρ := Bool) (DeckMoreL_c3 b n) (DeckMoreL_b3 b n) (neverA (weighedL b (modF n.2.1 (b.loads.length : Int)) (withF (b.loads.getD (modF n.2.1 (b.loads.length : Int)).toNat zLoad).w n.2.2))).1.length () (fun k : Nat => (k : Int)) (fun (ci : Int) (zz : Unit) => ⟨160, [(18, [], .s (.int .i64 ci)), (16, [], .s (.ref 13)), (14, [], .s (.ref 12))], [(13, .sl .ro 3 1 (neverA (weighedL b (modF n.2.1 (b.loads.length : Int)) (withF (b.loads.getD (modF n.2.1 (b.loads.length : Int)).toNat zLoad).w n.2.2))).1 encI 0), (12, .sl .ro 3 1 (neverA b).1 encI 0), (11, .sl .ro 3 1 (fewestA (weighedL b (modF n.2.1 (b.loads.length : Int)) (withF (b.loads.getD (modF n.2.1 (b.loads.length : Int)).toNat zLoad).w n.2.2))).1 encI 0), (10, .sl .ro 3 1 (fewestA b).1 encI 0), (9, .sl .ro 3 1 (mostA (weighedL b (modF n.2.1 (b.loads.length : Int)) (withF (b.loads.getD (modF n.2.1 (b.loads.length : Int)).toNat zLoad).w n.2.2))).1 encI 0), (8, .sl .ro 3 1 (mostA b).1 encI 0), (7, .sl .own 3 1 (chosenL b n.1) encI 0), (6, .sl .own 61 3 (weighedL b (modF n.2.1 (b.loads.length : Int)) (withF (b.loads.getD (modF n.2.1 (b.loads.length : Int)).toNat zLoad).w n.2.2)).loads encLoad zLoad), (5, .box 24 [.ref 6, .int .i64 (weighedL b (modF n.2.1 (b.loads.length : Int)) (withF (b.loads.getD (modF n.2.1 (b.loads.length : Int)).toNat zLoad).w n.2.2)).rule, .int .i64 (weighedL b (modF n.2.1 (b.loads.length : Int)) (withF (b.loads.getD (modF n.2.1 (b.loads.length : Int)).toNat zLoad).w n.2.2)).most]), (4, .box 76 [.int .i64 n.1, .int .i64 n.2.1, .int .i64 n.2.2]), (3, .box 24 [.ref 0, .int .i64 b.rule, .int .i64 b.most]), (0, .sl .ro 61 3 b.loads encLoad zLoad), (1, .pf NobodyAt (· = 1)), (2, .pf LanesAt (· = 0))], 14, []⟩) (fun zz : Unit => ⟨160, [], [(13, .sl .ro 3 1 (neverA (weighedL b (modF n.2.1 (b.loads.length : Int)) (withF (b.loads.getD (modF n.2.1 (b.loads.length : Int)).toNat zLoad).w n.2.2))).1 encI 0), (12, .sl .ro 3 1 (neverA b).1 encI 0), (11, .sl .ro 3 1 (fewestA (weighedL b (modF n.2.1 (b.loads.length : Int)) (withF (b.loads.getD (modF n.2.1 (b.loads.length : Int)).toNat zLoad).w n.2.2))).1 encI 0), (10, .sl .ro 3 1 (fewestA b).1 encI 0), (9, .sl .ro 3 1 (mostA (weighedL b (modF n.2.1 (b.loads.length : Int)) (withF (b.loads.getD (modF n.2.1 (b.loads.length : Int)).toNat zLoad).w n.2.2))).1 encI 0), (8, .sl .ro 3 1 (mostA b).1 encI 0), (7, .sl .own 3 1 (chosenL b n.1) encI 0), (6, .sl .own 61 3 (weighedL b (modF n.2.1 (b.loads.length : Int)) (withF (b.loads.getD (modF n.2.1 (b.loads.length : Int)).toNat zLoad).w n.2.2)).loads encLoad zLoad), (5, .box 24 [.ref 6, .int .i64 (weighedL b (modF n.2.1 (b.loads.length : Int)) (withF (b.loads.getD (modF n.2.1 (b.loads.length : Int)).toNat zLoad).w n.2.2)).rule, .int .i64 (weighedL b (modF n.2.1 (b.loads.length : Int)) (withF (b.loads.getD (modF n.2.1 (b.loads.length : Int)).toNat zLoad).w n.2.2)).most]), (4, .box 76 [.int .i64 n.1, .int .i64 n.2.1, .int .i64 n.2.2]), (3, .box 24 [.ref 0, .int .i64 b.rule, .int .i64 b.most]), (0, .sl .ro 61 3 b.loads encLoad zLoad), (1, .pf NobodyAt (· = 1)), (2, .pf LanesAt (· = 0))], 14, []⟩) (fun k zz => True) trivial ⟨0, rfl, Le_sel (ts := [18, 16, 14]) (ids := [13, 12, 11, 10, 9, 8, 7, 6, 5, 4, 3, 0, 1, 2]) (nx := 14) (by kernel_rfl)⟩ ?_ ?_
  · intro k3 zz hn3 hp3 hi3 Q3 hq3 ho3
    refine WP_seq (WP_seq (WP_region (WPO_all tt_ok (by kernel_rfl) ?_)))
    refine WP_cond (decide ((k3 : Int) < ((neverA (weighedL b (modF n.2.1 (b.loads.length : Int)) (withF (b.loads.getD (modF n.2.1 (b.loads.length : Int)).toNat zLoad).w n.2.2))).1.length : Int))) (by kernel_rfl) (fun hc27 => ?_) (fun hc27 => ?_)
    rotate_left
    · refine WP_exit ?_
      show Q3 (.exit 1) _
      exact LA_exit hq3 () (loopR_end hi3 hc27) ⟨k3, hn3, hp3⟩ (Le_sel (ts := []) (ids := [13, 12, 11, 10, 9, 8, 7, 6, 5, 4, 3, 0, 1, 2]) (nx := 14) (by kernel_rfl))
    have hc27' := of_decide_eq_true hc27
    have hk3 : k3 < (neverA (weighedL b (modF n.2.1 (b.loads.length : Int)) (withF (b.loads.getD (modF n.2.1 (b.loads.length : Int)).toNat zLoad).w n.2.2))).1.length := by omega
    refine WP_skip ?_
    refine WP_seq (WP_block ?_)
    refine WP_seq (WP_region (WPO_run tt_ok 3 (by kernel_rfl) ?_))
    refine IX tt_ok (k3 : Int) (neverA (weighedL b (modF n.2.1 (b.loads.length : Int)) (withF (b.loads.getD (modF n.2.1 (b.loads.length : Int)).toNat zLoad).w n.2.2))).1.length [] (by kernel_rfl) (fun hG => ⟨by omega, by omega⟩) ?_
    refine WPO_run tt_ok 1 (by kernel_rfl) ?_
    refine CALL 56 [.s (.ref 12), .s (.int .i64 ((neverA (weighedL b (modF n.2.1 (b.loads.length : Int)) (withF (b.loads.getD (modF n.2.1 (b.loads.length : Int)).toNat zLoad).w n.2.2))).1.getD k3 0))] (.s (.int .i64 (atF (neverA b).1 ((neverA (weighedL b (modF n.2.1 (b.loads.length : Int)) (withF (b.loads.getD (modF n.2.1 (b.loads.length : Int)).toNat zLoad).w n.2.2))).1.getD k3 0)))) [] (by kernel_rfl) (goes_of (by kernel_rfl)) (by kernel_rfl) (by kernel_rfl) (fun hG nV w h => atF_calls (nV 12) (neverA b).1 ((neverA (weighedL b (modF n.2.1 (b.loads.length : Int)) (withF (b.loads.getD (modF n.2.1 (b.loads.length : Int)).toNat zLoad).w n.2.2))).1.getD k3 0) w (h.reads (id := 12) (kd := .ro) (e := 3) (by kernel_rfl)) ) ?_
    refine WPO_all tt_ok (by kernel_rfl) ?_
    refine WP_cond (decide ((atF (neverA b).1 ((neverA (weighedL b (modF n.2.1 (b.loads.length : Int)) (withF (b.loads.getD (modF n.2.1 (b.loads.length : Int)).toNat zLoad).w n.2.2))).1.getD k3 0)) < 0)) (by kernel_rfl) (fun hc29 => ?_) (fun hc29 => ?_)
    · have hc29' := of_decide_eq_true hc29
      refine WP_seq (WP_region (WPO_all tt_ok (by kernel_rfl) ?_))
      refine WP_ret ?_
      show Q3 .ret _
      refine LA_ret hq3 ?_
      have he30 := loopR_ret (r := false) hi3 hk3 hc27 (by unfold DeckMoreL_b3; simp only [hc29, cond_true, cond_false])
      exact ⟨.s (.bool false), by kernel_rfl, fun nV w' h => ⟨by rw [show DeckMoreL b n = false from by unfold DeckMoreL; simp only [hc2, hc4, hc14, hc24, hc26, he30, cond_true, cond_false]]; rfl, h.bel⟩⟩
    have hc29' := of_decide_eq_false hc29
    refine WP_skip ?_
    refine WP_region (WPO_all tt_ok (by kernel_rfl) ?_)
    show Q3 .normal _
    exact LA_go hq3 (ci := IntKind.i64.wrap ((k3 : Int) + 1)) () hk3 (by show _ = ((k3 + 1 : Nat) : Int); rw [wrapI (by omega) (by omega)]; omega) (loopR_go hi3 hk3 hc27 (by unfold DeckMoreL_b3; simp only [hc29, cond_true, cond_false])) trivial (Le_sel (ts := [18, 16, 14]) (ids := [13, 12, 11, 10, 9, 8, 7, 6, 5, 4, 3, 0, 1, 2]) (nx := 14) (by kernel_rfl))
  intro zz hR3 hP3 s' hl
  refine WP_le hl ?_
  clear hl s'
  refine WP_seq (WP_region (CALL 21 [] (.s (.bool stowedL)) [] (by kernel_rfl) (goes_of (by kernel_rfl)) (by kernel_rfl) (by kernel_rfl) (fun hG nV w h => stowedL_calls   w (h.ents (1, .pf NobodyAt (· = 1)) (fnd_mem (by kernel_rfl))).1 (h.ents (2, .pf LanesAt (· = 0)) (fnd_mem (by kernel_rfl))).1 ) ?_))
  refine WPO_all tt_ok (by kernel_rfl) ?_
  refine WP_ret ?_
  exact ⟨.s (.bool stowedL), by kernel_rfl, fun nV w' h => ⟨by rw [show DeckMoreL b n = stowedL from by unfold DeckMoreL; first | (simp only [hc2, hc4, hc14, hc24, hc26, hR3, cond_true, cond_false]; done) | ((first | rw [bif_t hc2] | rw [bif_f hc2] | skip); (first | rw [bif_t hc4] | rw [bif_f hc4] | skip); (first | rw [bif_t hc14] | rw [bif_f hc14] | skip); (first | rw [bif_t hc24] | rw [bif_f hc24] | skip); (first | rw [bif_t hc26] | rw [bif_f hc26] | skip); (first | rw [bif_t hR3] | rw [bif_f hR3] | skip); first | done | rfl)]; rfl, h.bel⟩⟩
end Go.Proofs.YthfnedbpmdkdjaaDoor.D
namespace Go.Proofs.YthfnedbpmdkdjaaDoor.D
open Go Go.RowKit Go.Proofs.YthfnedbpmdkdjaaDoor.Eng Go.Proofs.YthfnedbpmdkdjaaDoor.Cm
set_option linter.unusedVariables false
set_option linter.unusedSimpArgs false
set_option linter.unusedSectionVars false
theorem DeckMore_true (b : DBook) (n : Int × Int × Int) : DeckMoreL b n = true := by
  unfold DeckMoreL
  rw [stowedL_true]
  cases hs : soundL b with
  | false => rfl
  | true =>
    have hv := sound_iff.1 hs
    have hn := hv.n
    simp only [Bool.not_true, cond_false]
    cases h0 : (modF n.2.2 3 == 0) with
    | true =>
      rw [cond_true]
      obtain ⟨x, hx⟩ : ∃ x : DBook, x = ⟨b.loads, mn 30 (IntKind.i64.wrap ((IntKind.i64.wrap (b.rule + 1)) + (modF n.2.1 5))), b.most⟩ := ⟨_, rfl⟩
      have hq := modF_in n.2.1 5 (by omega) (by omega)
      have hr := hv.rule
      have hxr : x.rule = min 30 (b.rule + 1 + modF n.2.1 5) := by
        rw [hx]
        show mn 30 _ = _
        rw [mn_spec, wrapI (x := b.rule + 1) (by omega) (by omega), wrapI (by omega) (by omega)]
      have hN : Narrow b x := ⟨hv, ⟨by rw [hx]; exact hv.n, by rw [hxr]; omega, by rw [hx]; exact hv.most, by rw [hx]; exact hv.loads⟩, by rw [hx], fun k hk => by rw [hx]; exact ⟨rfl, Int.le_refl _, Int.le_refl _⟩, by rw [hxr]; omega, by rw [hx]; exact Int.le_refl _⟩
      rw [← hx, narrow_most hN n.1, narrow_fewest hN]
      rw [brk_all (c := DeckMoreL_c1 b n) (b := DeckMoreL_b1 b n) (fun k hk => by simp only [DeckMoreL_c1, ← hx]; rw [decide_eq_true]; omega) (fun k hk => by simp only [DeckMoreL_b1, ← hx]; rw [narrow_still hN k hk]; rfl)]
      rfl
    | false =>
      rw [cond_false]
      cases h1 : (modF n.2.2 3 == 1) with
      | true =>
        rw [cond_true]
        obtain ⟨x, hx⟩ : ∃ x : DBook, x = ⟨b.loads, b.rule, mn 200 (IntKind.i64.wrap ((IntKind.i64.wrap (b.most + 1)) + (modF n.2.1 20)))⟩ := ⟨_, rfl⟩
        have hq := modF_in n.2.1 20 (by omega) (by omega)
        have hr := hv.most
        have hxr : x.most = min 200 (b.most + 1 + modF n.2.1 20) := by
          rw [hx]
          show mn 200 _ = _
          rw [mn_spec, wrapI (x := b.most + 1) (by omega) (by omega), wrapI (by omega) (by omega)]
        have hN : Narrow b x := ⟨hv, ⟨by rw [hx]; exact hv.n, by rw [hx]; exact hv.rule, by rw [hxr]; omega, by rw [hx]; exact hv.loads⟩, by rw [hx], fun k hk => by rw [hx]; exact ⟨rfl, Int.le_refl _, Int.le_refl _⟩, by rw [hx]; exact Int.le_refl _, by rw [hxr]; omega⟩
        rw [← hx, narrow_most hN n.1, narrow_fewest hN]
        rw [brk_all (c := DeckMoreL_c2 b n) (b := DeckMoreL_b2 b n) (fun k hk => by simp only [DeckMoreL_c2, ← hx]; rw [decide_eq_true]; omega) (fun k hk => by simp only [DeckMoreL_b2, ← hx]; rw [narrow_still hN k hk]; rfl)]
        rfl
      | false =>
        rw [cond_false]
        obtain ⟨x, hx⟩ : ∃ x : DBook, x = weighedL b (modF n.2.1 (b.loads.length : Int)) (withF (b.loads.getD (modF n.2.1 (b.loads.length : Int)).toNat zLoad).w n.2.2) := ⟨_, rfl⟩
        have hq := modF_in n.2.1 (b.loads.length : Int) (by omega) (by omega)
        obtain ⟨o, ho⟩ : ∃ o : Nat, modF n.2.1 (b.loads.length : Int) = (o : Int) := ⟨(modF n.2.1 (b.loads.length : Int)).toNat, by omega⟩
        have hol : o < b.loads.length := by omega
        have hw := (hv.load hol).1
        have hin := with_in (s := (b.loads.getD o zLoad).w) (n := n.2.2) (by omega) (by omega) (by omega)
        have hxb : x = bookW b o (withF (b.loads.getD o zLoad).w n.2.2) := by
          rw [hx, ho]
          unfold weighedL bookW
          rw [show ((o : Int)).toNat = o by omega]
          rfl
        have hxl : x.loads.length = b.loads.length := by rw [hxb]; unfold bookW; simp
        have hN : Narrow b x := ⟨hv, by rw [hxb]; exact bookW_valid hv hol hin, hxl, fun k hk => by
          rw [hxb]
          unfold bookW
          simp only
          rw [List.getD_eq_getElem?_getD, List.getElem?_set]
          by_cases e : o = k
          · subst e
            rw [if_pos rfl, if_pos hol]
            exact ⟨rfl, hin.1, hin.2⟩
          · rw [if_neg e, ← List.getD_eq_getElem?_getD]
            exact ⟨rfl, Int.le_refl _, Int.le_refl _⟩, by rw [hxb]; exact Int.le_refl _, by rw [hxb]; exact Int.le_refl _⟩
        rw [← hx, narrow_most hN n.1, narrow_fewest hN]
        rw [brk_all (c := DeckMoreL_c3 b n) (b := DeckMoreL_b3 b n) (fun k hk => by simp only [DeckMoreL_c3, ← hx]; rw [decide_eq_true]; omega) (fun k hk => by simp only [DeckMoreL_b3, ← hx]; rw [narrow_still hN k hk]; rfl)]
        rfl
end Go.Proofs.YthfnedbpmdkdjaaDoor.D
namespace Go.Proofs.YthfnedbpmdkdjaaDoor.D
open Go Go.ChangeShapes Go.WideShapes Go.RowKit Go.Proofs.YthfnedbpmdkdjaaDoor.Eng Go.Proofs.YthfnedbpmdkdjaaDoor.Cm
set_option linter.unusedVariables false
set_option linter.unusedSimpArgs false
set_option maxRecDepth 100000
namespace DeckMore
theorem door_met_deckMore (os : Os) (args : Array Value) : laidMetH Tryd.prog Rows.deckMoreRow.laid ((World.doorLaid Tryd.prog 30 os).forCall (fun _ _ => 0) ⟨#[], args, []⟩).memory :=
  laidMetH_of_parts3 (fuel := 8) (laidMet_of_run' 8 (by kernel_rfl) (by kernel_rfl)) (by kernel_rfl) (by kernel_rfl)
theorem contract (H : Type) (enc : TypeId × Value → H) (W : World) (base : Nat) (args : Array Value) (ds gs : List (DataW H)) (before : List MemPlace)
    (hval : ∀ (j : Nat) t v, Tryd.f13.params[j]? = some t → args[j]? = some v → Value.okWide Tryd.prog W .any base t v)
    (hW : DataW.Whole enc Tryd.prog Tryd.f13.params.toList Rows.deckMoreSpec.vars false W args.toList ds gs before)
    (hsz0 : (DataW.weightsEach Tryd.prog (Tryd.f13.params.toList ++ []) (ds ++ gs)).all (fun x => decide (x ≤ reachBytes)) = true) (hL : laidMetH Tryd.prog Rows.deckMoreRow.laid W) (hS : W.ShapedOpen Tryd.prog) :
    Calls Tryd.prog 13 args W fun e W' => ∃ v, e = .returned v ∧ Rows.deckMoreSpec.post enc Tryd.prog Tryd.f13 false true false false W args v W' := by
  have hW' := hW
  obtain ⟨p, q, hA0, hV, rfl, hfz, hnd⟩ := hW
  have hA : DataW.TrodAll enc Tryd.prog W 0 (fun _ => true) true Tryd.f13.params.toList args.toList ds p := hA0
  rw [Tryd.params13] at hA hval hsz0
  clear hA0
  obtain ⟨v0, vs0, d0, ds0, p0, q0, hargs, rfl, rfl, h0, r0⟩ := trodAll_cons hA
  obtain ⟨v1, vs1, d1, ds1, p1, q1, rfl, rfl, rfl, h1, r1⟩ := trodAll_cons r0
  obtain ⟨rfl, rfl, rfl⟩ := trodAll_nil r1
  obtain rfl : args = #[v0, v1] := by apply Array.ext'; rw [hargs]
  obtain ⟨rfl, rfl⟩ := trodVars_none hV
  have hsz : (DataW.weightsEach Tryd.prog [24, 76] [d0, d1]).all (fun x => decide (x ≤ reachBytes)) = true := by simpa using hsz0
  have hb0 : Wb Tryd.prog 24 d0 := Bd_each hsz (j := 0) rfl rfl
  obtain ⟨c0, rfl, ⟨g0_0, x0, y0, q0_0, q0_1, q0_2, _⟩⟩ := arg_agg Tryd.underlying24 (hval 0 24 v0 rfl rfl) h0 hb0 opn24
  rw [agg_of y0] at *
  have hb1 : Wb Tryd.prog 76 d1 := Bd_each hsz (j := 1) rfl rfl
  obtain ⟨c1, rfl, ⟨x1, y1, q1_0, q1_1, q1_2, _⟩⟩ := arg_arr Tryd.underlying76 (hval 1 76 v1 rfl rfl) h1 hb1 opn76
  rw [agg_of y1] at *
  have ha := deck_of hS hL
  have hc := DeckMoreL_calls g0_0 x0 x1 W q0_0.1 ha.1 ha.2
  refine hc.mono fun e W' ⟨he, hb⟩ => ?_
  refine ⟨.bool true, he.trans (by rw [DeckMore_true x0 x1]), law_post laidOut (fun u hu => ?_) hW' rfl (by kernel_rfl) Tryd.underlying4 rfl rfl rfl hb⟩
  have hall : ([24, 76] : List TypeId).all (fun u => Tryd.prog.readableRec u && decide (u < Tryd.prog.types.size)) = true := by kernel_rfl
  have hu' : u ∈ ([24, 76] : List TypeId) := hu
  have := List.all_eq_true.1 hall u hu'
  simp only [Bool.and_eq_true, decide_eq_true_eq] at this
  exact this
theorem reads (os : Os) {H : Type} (enc : TypeId × Value → H) : ∃ places, DataW.whole enc Tryd.prog ((World.doorLaid Tryd.prog 30 os).forCall (fun _ _ => 0) ⟨#[], #[.agg #[.slice none 0 0, .int .i64 0, .int .i64 0], .agg #[.int .i64 0, .int .i64 0, .int .i64 0]], []⟩).memory Tryd.f13.params.toList Rows.deckMoreSpec.vars false (#[.agg #[.slice none 0 0, .int .i64 0, .int .i64 0], .agg #[.int .i64 0, .int .i64 0, .int .i64 0]] : Array Value).toList 8 = some ([.agg [.nil, .lit (.int .i64 0), .lit (.int .i64 0)], .agg [.lit (.int .i64 0), .lit (.int .i64 0), .lit (.int .i64 0)]], [], places) :=
  ⟨[], by kernel_rfl⟩
set_option maxRecDepth 100000 in
theorem lifted (os : Os) (started : os.Started) (H : Type) (enc : TypeId × Value → H) (F : Stop.Interp) :
    ReturnsInHanded {} Tryd.checked os 13 .any ((OpenSpec.ofChange Rows.deckMoreSpec).preRow enc Tryd.prog Tryd.f13 Rows.deckMoreRow.domain false Rows.deckMoreRow.laid) (((OpenSpec.ofChange Rows.deckMoreSpec).at F).post enc Tryd.prog Tryd.f13 false true false false) := by
  obtain ⟨places, hx⟩ := reads os enc
  refine returnsInHanded_of_row (C := Tryd.checked) (s := OpenSpec.ofChange Rows.deckMoreSpec) own started (by kernel_rfl) Tryd.func13
    (witness_row_atRef (enc := enc) (C := Tryd.checked) false (World.doorLaid Tryd.prog 30 os) #[.agg #[.slice none 0 0, .int .i64 0, .int .i64 0], .agg #[.int .i64 0, .int .i64 0, .int .i64 0]] rfl (by kernel_rfl) (by kernel_rfl) (by kernel_rfl)
      (OpenSpec.preRow_of_cond 8 hx (by kernel_rfl) (fun k hk => by cases hk) (by kernel_rfl) (door_met_deckMore os _))) ?_
  intro W base args ds gs before hval hW _ hcond hsz hL hS _
  exact contract H enc W base args ds gs before hval hW hsz hL hS
theorem said : Rows.DeckMoreSaid :=
  OpenClaim.holds_of_cond 13 Tryd.f13 rfl rfl rfl rfl rfl rfl rfl ⟨rfl, rfl, rfl, rfl, rfl⟩ rfl rfl rfl rfl rfl (by kernel_rfl) Tryd.func13 (by kernel_rfl)
    (of_decide_eq_true (by kernel_rfl)) (by unfold Func.isWrapper; first | (rw [if_pos (by decide +kernel)]; kernel_rfl) | (rw [if_neg (by decide +kernel)]; exact ⟨rfl, rfl⟩))
    (fun os started H enc _ F => by rw [OpenClaim.pre_eq_preRow]; exact lifted os started H enc F)
theorem plain (f : FuncId) (fn : Func) (hf : Tryd.pinned.checked.prog.funcNamed "prow/prowlaw03.DeckMore" = some f) (hfn : Tryd.pinned.checked.prog.funcs[f]? = some fn) :
    false = Tryd.pinned.checked.prog.looks [] ∧ ∀ (j : Nat) t, fn.params[j]? = some t → Tryd.pinned.checked.prog.wantsStandIn t = false := by
  obtain rfl : f = 13 := Option.some.inj ((show Tryd.prog.funcNamed "prow/prowlaw03.DeckMore" = some 13 by kernel_rfl).symm.trans hf) |>.symm
  obtain rfl : fn = Tryd.f13 := (Option.some.inj (Tryd.func13.symm.trans hfn)).symm
  refine ⟨by kernel_rfl, fun j t ht => ?_⟩
  rw [Tryd.params13] at ht
  have hm : t ∈ ([24, 76] : List TypeId) := by simpa using Array.mem_of_getElem? ht
  have hall : (([24, 76] : List TypeId).all fun u => !Tryd.prog.wantsStandIn u) = true := by kernel_rfl
  exact (show Tryd.prog.wantsStandIn t = false by simpa using List.all_eq_true.1 hall t hm)
theorem card : Rows.DeckMoreCardSaid :=
  Claim7.holds_tied_plain_at .later [] _ _ _ _ said (fun _ h => by cases h) (by kernel_rfl) (fun _ h => by cases h) deckMore_row_tie rfl ⟨rfl, rfl⟩ (by kernel_rfl) rfl plain (by kernel_rfl)
end DeckMore
end Go.Proofs.YthfnedbpmdkdjaaDoor.D
theorem Go.Proofs.YthfnedbpmdkdjaaDoor.deckMore_holds : Go.Proofs.YthfnedbpmdkdjaaDoor.Rows.DeckMoreCardSaid := Go.Proofs.YthfnedbpmdkdjaaDoor.D.DeckMore.card
