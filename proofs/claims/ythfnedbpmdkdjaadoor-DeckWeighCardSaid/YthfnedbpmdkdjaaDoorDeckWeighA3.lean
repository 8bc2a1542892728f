/-
  DeckWeigh: for every book and every number the law returns true, and leaves the book as it was. Conditions: none but the row's own.
-/
import Derived.Test.YthfnedbpmdkdjaaDoorDeckWeighA2
import Derived.ArgAppend
import Derived.Below
import Derived.Carry
import Derived.ChangeKeysEq
import Derived.ControlIn
import Derived.Deep.DeepHandedRow
import Derived.Deep.DeepWitnessRowRef
import Derived.Deep.Draws
import Derived.Deep.Quiet
import Derived.Deep.Slices
import Derived.KernelRfl
import Derived.LaidMore
import Derived.Laws.AppendOwn
import Derived.Laws.Cells
import Derived.Laws.CopyRow
import Derived.Laws.IdiomRangeMap
import Derived.Laws.OwnMore
import Derived.Laws.Rows
import Derived.MapKept
import Derived.Maps.AppendAt
import Derived.OpenShut
import Derived.OrdersHeld
import Derived.OrdersIn
import Derived.ProofKit
import Derived.RangeFuncLeaves
import Derived.RangeFuncNested
import Derived.RangeFuncOwn
import Derived.SevenTiedAt
import Derived.SizedLaws
import Derived.Stop.Joined
import Derived.Test.YthfnedbpmdkdjaaDoorCards
import Derived.Test.YthfnedbpmdkdjaaDoorProg
import Derived.Test.YthfnedbpmdkdjaaDoorRows
import Derived.Test.YthfnedbpmdkdjaaDoorTie
import Derived.WalkKit
import Derived.WideKeyRuns
namespace Go.Proofs.YthfnedbpmdkdjaaDoor.D
open Go Go.RowKit Go.Proofs.YthfnedbpmdkdjaaDoor.Eng Go.Proofs.YthfnedbpmdkdjaaDoor.Cm
set_option linter.unusedVariables false
set_option linter.unusedSimpArgs false
set_option linter.unusedSectionVars false
def weighA_c2 (b : DBook) (k1 : Nat) (v1_1 : Int) (v1_2 : Int) (k2 : Nat) : Int → Bool := fun v2_1 => decide ((k2 : Int) < (IntKind.i64.wrap ((IntKind.i64.wrap ((b.loads.getD k1 zLoad).w.hi - (b.loads.getD k1 zLoad).w.lo)) + 1)))
def weighA_b2 (b : DBook) (k1 : Nat) (v1_1 : Int) (v1_2 : Int) (k2 : Nat) : Int → Bd Int (Int × Int) := fun v2_1 => .go (mn v2_1 ((mostD (⟨(cloneL b.loads).set k1 (⟨(⟨IntKind.i64.wrap ((b.loads.getD k1 zLoad).w.lo + (k2 : Int)), IntKind.i64.wrap ((b.loads.getD k1 zLoad).w.lo + (k2 : Int))⟩ : Span), ((cloneL b.loads).getD k1 zLoad).lanes⟩ : Load), b.rule, b.most⟩ : DBook)).length : Int))
def weighA_c1 (b : DBook) (k1 : Nat) : (Int × Int) → Bool := fun (v1_1, v1_2) => decide ((k1 : Int) < (b.loads.length : Int))
def weighA_b1 (b : DBook) (k1 : Nat) : (Int × Int) → Bd (Int × Int) (Int × Int) := fun (v1_1, v1_2) => (bif (IntKind.i64.wrap ((b.loads.getD k1 zLoad).w.hi - (b.loads.getD k1 zLoad).w.lo)) == 0 then .go (v1_1, v1_2) else (match loopR (weighA_c2 b k1 v1_1 v1_2) (weighA_b2 b k1 v1_1 v1_2) ((IntKind.i64.wrap ((IntKind.i64.wrap ((b.loads.getD k1 zLoad).w.hi - (b.loads.getD k1 zLoad).w.lo)) + 1)) : Int).toNat 0 (b.loads.length : Int) with | .brk u2_0 => .go (bif (decide ((greatestD u2_0 ([v1_1])) > v1_1)) then u2_0 else v1_1, bif (decide ((greatestD u2_0 ([v1_1])) > v1_1)) then (k1 : Int) else v1_2) | .ret r => .ret r))
def weighA (b : DBook) : Int × Int :=
  (bif (checkD b) != 0 then (0, (checkD b)) else (match loopR (weighA_c1 b) (weighA_b1 b) b.loads.length 0 (-1, -1) with | .brk (u1_0, u1_1) => (bif decide (u1_1 < 0) then (0, 4) else (u1_1, 0)) | .ret r => r))
set_option maxHeartbeats 1000000 in
theorem weighA_calls (g0 : Value) (b : DBook) (w : World) (r0 : Reads w g0 3 b.loads encLoad zLoad) (hnb : NobodyAt w) (hla : LanesAt w) : Calls Tryd.prog 48 #[.agg #[g0, iv b.rule, iv b.most]] w fun e w' => e = .returned (.tuple #[iv (weighA b).1, iv (weighA b).2]) ∧ Below w.heap.size w w' := by
  refine calls_of_WP (cx := cx0 w (vn [g0]) 1) (n := vn [g0]) (vs := [.g [.ref 0, .int .i64 b.rule, .int .i64 b.most]]) (hp := [(0, .sl .ro 61 3 b.loads encLoad zLoad), (1, .pf NobodyAt (· = 1)), (2, .pf LanesAt (· = 0))]) (nx := 3) tt_ok Tryd.func48 rfl rfl rfl (by kernel_rfl) (HSat_args (vn_one (by simp [r0.one])) (by decide) ⟨⟨⟨fun _ => rfl, by decide, r0⟩, (Nat.le_of_ble_eq_true rfl)⟩, ⟨⟨hnb, fun w1 w2 h1 hw => (hw 1 rfl).trans h1, fun g hg => by cases hg; exact (Array.getElem?_eq_some_iff.1 hnb).1⟩, (Nat.le_of_ble_eq_true rfl)⟩, ⟨⟨hla, fun w1 w2 h1 hw => (hw 0 rfl).trans h1, fun g hg => by cases hg; exact (Array.getElem?_eq_some_iff.1 hla).1⟩, (Nat.le_of_ble_eq_true rfl)⟩, trivial⟩) (vsOk (by kernel_rfl)) ?_
  have hl0 := Reads.len r0
  refine WP_seq (WP_region (WPO_all tt_ok (by kernel_rfl) ?_))
  refine WP_seq (WP_seq (WP_region (WPO_run tt_ok 1 (by kernel_rfl) ?_)))
  refine CALL 66 [.g [.ref 0, .int .i64 b.rule, .int .i64 b.most]] (.s (.int .i64 (checkD b))) [] (by kernel_rfl) (goes_of (by kernel_rfl)) (by kernel_rfl) (by kernel_rfl) (fun _ nV w h => checkD_calls (nV 0) b w (h.reads (id := 0) (kd := .ro) (e := 61) (by kernel_rfl)) ) ?_
  refine WPO_all tt_ok (by kernel_rfl) ?_
  refine WP_seq (WP_region (WPO_all tt_ok (by kernel_rfl) ?_))
  refine WP_cond ((checkD b) != 0) (by kernel_rfl) (fun hc2 => ?_) (fun hc2 => ?_)
  · have hc2' := hc2; try simp only [Bool.and_eq_true, Bool.or_eq_true, Bool.and_eq_false_iff, Bool.or_eq_false_iff, Bool.not_eq_true', Bool.not_eq_false', decide_eq_true_eq, decide_eq_false_iff_not, beq_iff_eq, beq_eq_false_iff_ne, bne_iff_ne, bne_eq_false_iff_eq, ne_eq] at hc2'
    refine WP_seq (WP_region (WPO_all tt_ok (by kernel_rfl) ?_))
    refine WP_ret ?_
    exact ⟨.t [(false, [.int .i64 0]), (false, [.int .i64 (checkD b)])], by kernel_rfl, fun nV w' h => ⟨by rw [show weighA b = (0, (checkD b)) from by unfold weighA; simp only [hc2, cond_true, cond_false]]; rfl, h.bel⟩⟩
  have hc2' := hc2; try simp only [Bool.and_eq_true, Bool.or_eq_true, Bool.and_eq_false_iff, Bool.or_eq_false_iff, Bool.not_eq_true', Bool.not_eq_false', decide_eq_true_eq, decide_eq_false_iff_not, beq_iff_eq, beq_eq_false_iff_ne, bne_iff_ne, bne_eq_false_iff_eq, ne_eq] at hc2'
  refine WP_skip ?_
  have hv : ValidD b := checkD_valid.1 (bne_eq_false_iff_eq.1 (by assumption))
  have hb5 := hv.n.2
  have hcl : (cloneL b.loads).length = b.loads.length := rfl
  refine WP_seq (WP_region (WPO_all tt_ok (by kernel_rfl) ?_))
  refine WP_seq (WP_seq (WP_region (WPO_all tt_ok (by kernel_rfl) ?_)))
  refine WP_loopA (ρ := Int × Int) (weighA_c1 b) (weighA_b1 b) b.loads.length (-1, -1) (fun k : Nat => (k : Int)) (fun (ci : Int) (zz : Int × Int) => ⟨83, [(21, [], .s (.int .i64 ci)), (20, [], .s (.int .i64 (b.loads.length : Int))), (19, [], .s (.ref 0)), (6, [], .s (.int .i64 zz.1)), (5, [], .s (.int .i64 zz.2)), (1, [], .s (.p 3 0))], [(3, .box 24 [.ref 0, .int .i64 b.rule, .int .i64 b.most]), (0, .sl .ro 61 3 b.loads encLoad zLoad), (1, .pf NobodyAt (· = 1)), (2, .pf LanesAt (· = 0))], 4, []⟩) (fun zz : Int × Int => ⟨83, [(5, [], .s (.int .i64 zz.2))], [(3, .box 24 [.ref 0, .int .i64 b.rule, .int .i64 b.most]), (0, .sl .ro 61 3 b.loads encLoad zLoad), (1, .pf NobodyAt (· = 1)), (2, .pf LanesAt (· = 0))], 4, []⟩) (fun k zz => True) trivial ⟨0, rfl, Le_sel (ts := [21, 20, 19, 6, 5, 1]) (ids := [3, 0, 1, 2]) (nx := 4) (by kernel_rfl)⟩ ?_ ?_
  · intro k1 zz hn1 hp1 hi1 Q1 hq1 ho1
    obtain ⟨v1_1, v1_2⟩ := zz
    refine WP_seq (WP_region (WPO_all tt_ok (by kernel_rfl) ?_))
    refine WP_seq (WP_cond (decide ((k1 : Int) < (b.loads.length : Int))) (by kernel_rfl) (fun hc3 => ?_) (fun hc3 => ?_))
    rotate_left
    · refine WP_exit ?_
      show Q1 (.exit 0) _
      exact LA_exit hq1 (v1_1, v1_2) (loopR_end hi1 hc3) ⟨k1, hn1, hp1⟩ (Le_sel (ts := [5]) (ids := [3, 0, 1, 2]) (nx := 4) (by kernel_rfl))
    have hc3' := of_decide_eq_true hc3
    have hk1 : k1 < b.loads.length := by omega
    have hld := (hv.load hk1).1
    have hw1 : IntKind.i64.wrap ((b.loads.getD k1 zLoad).w.hi - (b.loads.getD k1 zLoad).w.lo) = (b.loads.getD k1 zLoad).w.hi - (b.loads.getD k1 zLoad).w.lo := wrapI (by omega) (by omega)
    have hw2 : IntKind.i64.wrap (IntKind.i64.wrap ((b.loads.getD k1 zLoad).w.hi - (b.loads.getD k1 zLoad).w.lo) + 1) = (b.loads.getD k1 zLoad).w.hi - (b.loads.getD k1 zLoad).w.lo + 1 := by rw [hw1, wrapI (by omega) (by omega)]
    refine WP_skip ?_
    refine WP_seq (WP_block ?_)
    refine WP_seq (WP_region (WPO_run tt_ok 1 (by kernel_rfl) ?_))
    refine IX tt_ok (k1 : Int) b.loads.length [] (by kernel_rfl) (fun hG => ⟨by omega, by omega⟩) ?_
    refine WPO_all tt_ok (by kernel_rfl) ?_
    refine WP_seq (WP_region (WPO_all tt_ok (by kernel_rfl) ?_))
    refine WP_seq (WP_seq (WP_region (WPO_all tt_ok (by kernel_rfl) ?_)))
    refine WP_cond ((IntKind.i64.wrap ((b.loads.getD k1 zLoad).w.hi - (b.loads.getD k1 zLoad).w.lo)) == 0) (by kernel_rfl) (fun hc5 => ?_) (fun hc5 => ?_)
    · have hc5' := hc5; try simp only [Bool.and_eq_true, Bool.or_eq_true, Bool.and_eq_false_iff, Bool.or_eq_false_iff, Bool.not_eq_true', Bool.not_eq_false', decide_eq_true_eq, decide_eq_false_iff_not, beq_iff_eq, beq_eq_false_iff_ne, bne_iff_ne, bne_eq_false_iff_eq, ne_eq] at hc5'
      refine WP_exit ?_
      refine WP_region (WPO_all tt_ok (by kernel_rfl) ?_)
      show Q1 .normal _
      exact LA_go hq1 (ci := IntKind.i64.wrap ((k1 : Int) + 1)) (v1_1, v1_2) hk1 (by show _ = ((k1 + 1 : Nat) : Int); rw [wrapI (by omega) (by omega)]; omega) (loopR_go hi1 hk1 hc3 (by unfold weighA_b1; simp only [hc5, cond_true, cond_false])) trivial (Le_sel (ts := [21, 20, 19, 6, 5, 1]) (ids := [3, 0, 1, 2]) (nx := 4) (by kernel_rfl))
    have hc5' := hc5; try simp only [Bool.and_eq_true, Bool.or_eq_true, Bool.and_eq_false_iff, Bool.or_eq_false_iff, Bool.not_eq_true', Bool.not_eq_false', decide_eq_true_eq, decide_eq_false_iff_not, beq_iff_eq, beq_eq_false_iff_ne, bne_iff_ne, bne_eq_false_iff_eq, ne_eq] at hc5'
    refine WP_skip ?_
    refine WP_seq (WP_region (WPO_all tt_ok (by kernel_rfl) ?_))
    refine WP_seq (WP_seq (WP_region (WPO_all tt_ok (by kernel_rfl) ?_)))
    refine WP_loopA (ρ := Int × Int) (weighA_c2 b k1 v1_1 v1_2) (weighA_b2 b k1 v1_1 v1_2) ((IntKind.i64.wrap ((IntKind.i64.wrap ((b.loads.getD k1 zLoad).w.hi - (b.loads.getD k1 zLoad).w.lo)) + 1)) : Int).toNat (b.loads.length : Int) (fun k : Nat => (k : Int)) (fun (ci : Int) (zz : Int) => ⟨83, [(40, [], .s (.int .i64 ci)), (39, [], .s (.int .i64 (IntKind.i64.wrap ((IntKind.i64.wrap ((b.loads.getD k1 zLoad).w.hi - (b.loads.getD k1 zLoad).w.lo)) + 1)))), (10, [], .s (.int .i64 zz)), (7, [], .s (.int .i64 (k1 : Int))), (8, [], .s (.p 4 0)), (21, [], .s (.int .i64 (k1 : Int))), (20, [], .s (.int .i64 (b.loads.length : Int))), (19, [], .s (.ref 0)), (6, [], .s (.int .i64 v1_1)), (5, [], .s (.int .i64 v1_2)), (1, [], .s (.p 3 0))], [(4, .box 61 [.int .i64 (b.loads.getD k1 zLoad).w.lo, .int .i64 (b.loads.getD k1 zLoad).w.hi, .int .i64 (b.loads.getD k1 zLoad).lanes]), (3, .box 24 [.ref 0, .int .i64 b.rule, .int .i64 b.most]), (0, .sl .ro 61 3 b.loads encLoad zLoad), (1, .pf NobodyAt (· = 1)), (2, .pf LanesAt (· = 0))], 5, []⟩) (fun zz : Int => ⟨83, [(10, [], .s (.int .i64 zz)), (7, [], .s (.int .i64 (k1 : Int))), (21, [], .s (.int .i64 (k1 : Int))), (20, [], .s (.int .i64 (b.loads.length : Int))), (19, [], .s (.ref 0)), (6, [], .s (.int .i64 v1_1)), (5, [], .s (.int .i64 v1_2)), (1, [], .s (.p 3 0))], [(4, .box 61 [.int .i64 (b.loads.getD k1 zLoad).w.lo, .int .i64 (b.loads.getD k1 zLoad).w.hi, .int .i64 (b.loads.getD k1 zLoad).lanes]), (3, .box 24 [.ref 0, .int .i64 b.rule, .int .i64 b.most]), (0, .sl .ro 61 3 b.loads encLoad zLoad), (1, .pf NobodyAt (· = 1)), (2, .pf LanesAt (· = 0))], 5, []⟩) (fun k zz => True) trivial ⟨0, rfl, Le_sel (ts := [40, 39, 10, 7, 8, 21, 20, 19, 6, 5, 1]) (ids := [4, 3, 0, 1, 2]) (nx := 5) (by kernel_rfl)⟩ ?_ ?_
    · intro k2 v2_1 hn2 hp2 hi2 Q2 hq2 ho2
      refine WP_seq (WP_region (WPO_all tt_ok (by kernel_rfl) ?_))
      refine WP_seq (WP_cond (decide ((k2 : Int) < (IntKind.i64.wrap ((IntKind.i64.wrap ((b.loads.getD k1 zLoad).w.hi - (b.loads.getD k1 zLoad).w.lo)) + 1)))) (by kernel_rfl) (fun hc6 => ?_) (fun hc6 => ?_))
      rotate_left
      · refine WP_exit ?_
        show Q2 (.exit 2) _
        exact LA_exit hq2 v2_1 (loopR_end hi2 hc6) ⟨k2, hn2, hp2⟩ (Le_sel (ts := [10, 7, 21, 20, 19, 6, 5, 1]) (ids := [4, 3, 0, 1, 2]) (nx := 5) (by kernel_rfl))
      have hc6' := of_decide_eq_true hc6
      have hk2 : k2 < ((IntKind.i64.wrap ((IntKind.i64.wrap ((b.loads.getD k1 zLoad).w.hi - (b.loads.getD k1 zLoad).w.lo)) + 1)) : Int).toNat := by omega
      refine WP_skip ?_
      refine WP_seq (WP_block ?_)
      refine WP_seq (WP_region (WPO_all tt_ok (by kernel_rfl) ?_))
      refine WP_le (s' := ⟨83, [(11, [], .s (.int .i64 (k2 : Int))), (40, [], .s (.int .i64 (k2 : Int))), (39, [], .s (.int .i64 (IntKind.i64.wrap ((IntKind.i64.wrap ((b.loads.getD k1 zLoad).w.hi - (b.loads.getD k1 zLoad).w.lo)) + 1)))), (10, [], .s (.int .i64 v2_1)), (7, [], .s (.int .i64 (k1 : Int))), (8, [], .s (.p 4 0)), (21, [], .s (.int .i64 (k1 : Int))), (20, [], .s (.int .i64 (b.loads.length : Int))), (19, [], .s (.ref 0)), (6, [], .s (.int .i64 v1_1)), (5, [], .s (.int .i64 v1_2)), (1, [], .s (.p 3 0))], [(4, .box 61 [.int .i64 (b.loads.getD k1 zLoad).w.lo, .int .i64 (b.loads.getD k1 zLoad).w.hi, .int .i64 (b.loads.getD k1 zLoad).lanes]), (3, .box 24 [.ref 0, .int .i64 b.rule, .int .i64 b.most]), (0, .sl .ro 61 3 b.loads encLoad zLoad), (1, .pf NobodyAt (· = 1)), (2, .pf LanesAt (· = 0))], 5, []⟩) (Le_sel (ts := [11, 40, 39, 10, 7, 8, 21, 20, 19, 6, 5, 1]) (ids := [4, 3, 0, 1, 2]) (nx := 5) (by kernel_rfl)) ?_
      refine WP_seq (WP_region (WPO_all tt_ok (by kernel_rfl) ?_))
      refine WP_seq (WP_region (WPO_run tt_ok 2 (by kernel_rfl) ?_))
      refine CALLO 103 [.s (.ref 0)] (.s (.ref 6)) 61 3 (cloneL b.loads) encLoad zLoad 6 (by kernel_rfl) (by kernel_rfl) (goes_of (by kernel_rfl)) (by kernel_rfl) (by kernel_rfl) (fun _ => rfl) ((fun nV w h => cloneL_calls (nV 0) b.loads w (h.reads (id := 0) (kd := .ro) (e := 61) (by kernel_rfl)) (by first | assumption | omega | (simp only [List.length_set, cloneL]; omega)))) ?_
      refine WPO_all tt_ok (by kernel_rfl) ?_
      refine WP_le (s' := ⟨83, [(12, [], .s (.p 5 0)), (11, [], .s (.int .i64 (k2 : Int))), (40, [], .s (.int .i64 (k2 : Int))), (39, [], .s (.int .i64 (IntKind.i64.wrap ((IntKind.i64.wrap ((b.loads.getD k1 zLoad).w.hi - (b.loads.getD k1 zLoad).w.lo)) + 1)))), (10, [], .s (.int .i64 v2_1)), (7, [], .s (.int .i64 (k1 : Int))), (8, [], .s (.p 4 0)), (21, [], .s (.int .i64 (k1 : Int))), (20, [], .s (.int .i64 (b.loads.length : Int))), (19, [], .s (.ref 0)), (6, [], .s (.int .i64 v1_1)), (5, [], .s (.int .i64 v1_2)), (1, [], .s (.p 3 0))], [(6, .sl .own 61 3 (cloneL b.loads) encLoad zLoad), (5, .box 24 [.ref 6, .int .i64 b.rule, .int .i64 b.most]), (4, .box 61 [.int .i64 (b.loads.getD k1 zLoad).w.lo, .int .i64 (b.loads.getD k1 zLoad).w.hi, .int .i64 (b.loads.getD k1 zLoad).lanes]), (3, .box 24 [.ref 0, .int .i64 b.rule, .int .i64 b.most]), (0, .sl .ro 61 3 b.loads encLoad zLoad), (1, .pf NobodyAt (· = 1)), (2, .pf LanesAt (· = 0))], 7, []⟩) (Le_sel (ts := [12, 11, 40, 39, 10, 7, 8, 21, 20, 19, 6, 5, 1]) (ids := [6, 5, 4, 3, 0, 1, 2]) (nx := 7) (by kernel_rfl)) ?_
      refine WP_seq (WP_region (WPO_run tt_ok 14 (by kernel_rfl) ?_))
      refine IX tt_ok (k1 : Int) (cloneL b.loads).length [] (by kernel_rfl) (fun hG => ⟨by omega, by omega⟩) ?_
      refine WPO_run tt_ok 1 (by kernel_rfl) ?_
      refine EST tt_ok 6 (k1 : Int) 3 0 61 43 (cloneL b.loads) encLoad zLoad (⟨(⟨IntKind.i64.wrap ((b.loads.getD k1 zLoad).w.lo + (k2 : Int)), IntKind.i64.wrap ((b.loads.getD k1 zLoad).w.lo + (k2 : Int))⟩ : Span), ((cloneL b.loads).getD k1 zLoad).lanes⟩ : Load) (.g [.int .i64 (IntKind.i64.wrap ((b.loads.getD k1 zLoad).w.lo + (k2 : Int))), .int .i64 (IntKind.i64.wrap ((b.loads.getD k1 zLoad).w.lo + (k2 : Int)))]) (by kernel_rfl) (by kernel_rfl) (by kernel_rfl) (by kernel_rfl) ⟨by omega, by omega⟩ (fun n => rfl) ?_
      refine WPO_nil ?_
      refine WP_le (s' := ⟨83, [(12, [], .s (.p 5 0)), (40, [], .s (.int .i64 (k2 : Int))), (39, [], .s (.int .i64 (IntKind.i64.wrap ((IntKind.i64.wrap ((b.loads.getD k1 zLoad).w.hi - (b.loads.getD k1 zLoad).w.lo)) + 1)))), (10, [], .s (.int .i64 v2_1)), (7, [], .s (.int .i64 (k1 : Int))), (8, [], .s (.p 4 0)), (21, [], .s (.int .i64 (k1 : Int))), (20, [], .s (.int .i64 (b.loads.length : Int))), (19, [], .s (.ref 0)), (6, [], .s (.int .i64 v1_1)), (5, [], .s (.int .i64 v1_2)), (1, [], .s (.p 3 0))], [(6, .sl .own 61 3 ((cloneL b.loads).set k1 (⟨(⟨IntKind.i64.wrap ((b.loads.getD k1 zLoad).w.lo + (k2 : Int)), IntKind.i64.wrap ((b.loads.getD k1 zLoad).w.lo + (k2 : Int))⟩ : Span), ((cloneL b.loads).getD k1 zLoad).lanes⟩ : Load)) encLoad zLoad), (5, .box 24 [.ref 6, .int .i64 b.rule, .int .i64 b.most]), (4, .box 61 [.int .i64 (b.loads.getD k1 zLoad).w.lo, .int .i64 (b.loads.getD k1 zLoad).w.hi, .int .i64 (b.loads.getD k1 zLoad).lanes]), (3, .box 24 [.ref 0, .int .i64 b.rule, .int .i64 b.most]), (0, .sl .ro 61 3 b.loads encLoad zLoad), (1, .pf NobodyAt (· = 1)), (2, .pf LanesAt (· = 0))], 7, []⟩) (Le_sel (ts := [12, 40, 39, 10, 7, 8, 21, 20, 19, 6, 5, 1]) (ids := [6, 5, 4, 3, 0, 1, 2]) (nx := 7) (by kernel_rfl)) ?_
      refine WP_region (WPO_run tt_ok 2 (by kernel_rfl) ?_)
      refine CALLMAP 90 [.g [.ref 6, .int .i64 b.rule, .int .i64 b.most]] (plL (⟨(cloneL b.loads).set k1 (⟨(⟨IntKind.i64.wrap ((b.loads.getD k1 zLoad).w.lo + (k2 : Int)), IntKind.i64.wrap ((b.loads.getD k1 zLoad).w.lo + (k2 : Int))⟩ : Span), ((cloneL b.loads).getD k1 zLoad).lanes⟩ : Load), b.rule, b.most⟩ : DBook)) plKey plVal (fun gM7 => .g [.ref 6, .int .i64 b.rule, .int .i64 b.most, .v (.map (some gM7))]) (by kernel_rfl) (goes_of (by kernel_rfl)) (fun _ => (by kernel_rfl)) (fun _ => (by kernel_rfl)) (fun _ n n' h => by simp only [AV.c, cellsV, part1, AC.c, List.map_cons, List.map_nil, h 6 (by show 6 < 7; decide)]) (fun nV w h => opened_plL (nV 6) (⟨(cloneL b.loads).set k1 (⟨(⟨IntKind.i64.wrap ((b.loads.getD k1 zLoad).w.lo + (k2 : Int)), IntKind.i64.wrap ((b.loads.getD k1 zLoad).w.lo + (k2 : Int))⟩ : Span), ((cloneL b.loads).getD k1 zLoad).lanes⟩ : Load), b.rule, b.most⟩ : DBook) w (h.reads (id := 6) (kd := .own) (e := 61) (by kernel_rfl)) (h.ents (1, .pf NobodyAt (· = 1)) (fnd_mem (by kernel_rfl))).1 (by first | assumption | omega | (simp only [List.length_set, cloneL]; omega))) (fun gM7 => ?_)
      refine CALLSL 95 [.g [.ref 6, .int .i64 b.rule, .int .i64 b.most, .v (.map (some gM7))]] (fun sv8 => .s (.v sv8)) 1 (mostD (⟨(cloneL b.loads).set k1 (⟨(⟨IntKind.i64.wrap ((b.loads.getD k1 zLoad).w.lo + (k2 : Int)), IntKind.i64.wrap ((b.loads.getD k1 zLoad).w.lo + (k2 : Int))⟩ : Span), ((cloneL b.loads).getD k1 zLoad).lanes⟩ : Load), b.rule, b.most⟩ : DBook)) encI 0 (by decide) (by kernel_rfl) (goes_of (by kernel_rfl)) (fun _ => (by kernel_rfl)) (fun _ => (by kernel_rfl)) (fun _ _ _ => rfl) (fun nV w h => mostD_calls (nV 6) gM7 (⟨(cloneL b.loads).set k1 (⟨(⟨IntKind.i64.wrap ((b.loads.getD k1 zLoad).w.lo + (k2 : Int)), IntKind.i64.wrap ((b.loads.getD k1 zLoad).w.lo + (k2 : Int))⟩ : Span), ((cloneL b.loads).getD k1 zLoad).lanes⟩ : Load), b.rule, b.most⟩ : DBook) w (h.reads (id := 6) (kd := .own) (e := 61) (by kernel_rfl)) (h.ents (7, mapE gM7 (plL (⟨(cloneL b.loads).set k1 (⟨(⟨IntKind.i64.wrap ((b.loads.getD k1 zLoad).w.lo + (k2 : Int)), IntKind.i64.wrap ((b.loads.getD k1 zLoad).w.lo + (k2 : Int))⟩ : Span), ((cloneL b.loads).getD k1 zLoad).lanes⟩ : Load), b.rule, b.most⟩ : DBook)) plKey plVal) (fnd_mem (by kernel_rfl))).1 (h.ents (2, .pf LanesAt (· = 0)) (fnd_mem (by kernel_rfl))).1 (by first | assumption | omega | (simp only [List.length_set, cloneL]; omega))) (fun sv8 => ?_)
      refine SLEN tt_ok (.s (.v sv8)) [] (mostD (⟨(cloneL b.loads).set k1 (⟨(⟨IntKind.i64.wrap ((b.loads.getD k1 zLoad).w.lo + (k2 : Int)), IntKind.i64.wrap ((b.loads.getD k1 zLoad).w.lo + (k2 : Int))⟩ : Span), ((cloneL b.loads).getD k1 zLoad).lanes⟩ : Load), b.rule, b.most⟩ : DBook)).length (by kernel_rfl) (fun _ n w h => by obtain ⟨A, c, hv, _⟩ := (h.ents (8, slE sv8 1 (mostD (⟨(cloneL b.loads).set k1 (⟨(⟨IntKind.i64.wrap ((b.loads.getD k1 zLoad).w.lo + (k2 : Int)), IntKind.i64.wrap ((b.loads.getD k1 zLoad).w.lo + (k2 : Int))⟩ : Span), ((cloneL b.loads).getD k1 zLoad).lanes⟩ : Load), b.rule, b.most⟩ : DBook)) encI 0) (fnd_mem (by kernel_rfl))).1; exact ⟨A, c, hv⟩) (by kernel_rfl) ?_
      refine WPO_all tt_ok (by kernel_rfl) ?_
      refine WP_region (WPO_all tt_ok (by kernel_rfl) ?_)
      show Q2 .normal _
      exact LA_go hq2 (ci := IntKind.i64.wrap ((k2 : Int) + 1)) (mn v2_1 ((mostD (⟨(cloneL b.loads).set k1 (⟨(⟨IntKind.i64.wrap ((b.loads.getD k1 zLoad).w.lo + (k2 : Int)), IntKind.i64.wrap ((b.loads.getD k1 zLoad).w.lo + (k2 : Int))⟩ : Span), ((cloneL b.loads).getD k1 zLoad).lanes⟩ : Load), b.rule, b.most⟩ : DBook)).length : Int)) hk2 (by show _ = ((k2 + 1 : Nat) : Int); rw [wrapI (by omega) (by omega)]; omega) (loopR_go hi2 hk2 hc6 (rfl)) trivial (Le_sel (ts := [40, 39, 10, 7, 8, 21, 20, 19, 6, 5, 1]) (ids := [4, 3, 0, 1, 2]) (nx := 5) (by kernel_rfl))
    intro u2_0 hR2 hP2 s' hl
    refine WP_le hl ?_
    clear hl s'
    refine WP_le (s' := ⟨83, [(10, [], .s (.int .i64 u2_0)), (7, [], .s (.int .i64 (k1 : Int))), (21, [], .s (.int .i64 (k1 : Int))), (20, [], .s (.int .i64 (b.loads.length : Int))), (19, [], .s (.ref 0)), (6, [], .s (.int .i64 v1_1)), (5, [], .s (.int .i64 v1_2)), (1, [], .s (.p 3 0))], [(4, .box 61 [.int .i64 (b.loads.getD k1 zLoad).w.lo, .int .i64 (b.loads.getD k1 zLoad).w.hi, .int .i64 (b.loads.getD k1 zLoad).lanes]), (3, .box 24 [.ref 0, .int .i64 b.rule, .int .i64 b.most]), (0, .sl .ro 61 3 b.loads encLoad zLoad), (1, .pf NobodyAt (· = 1)), (2, .pf LanesAt (· = 0))], 5, []⟩) (Le_sel (ts := [10, 7, 21, 20, 19, 6, 5, 1]) (ids := [4, 3, 0, 1, 2]) (nx := 5) (by kernel_rfl)) ?_
    refine WP_seq (WP_region (WPO_run tt_ok 2 (by kernel_rfl) ?_))
    refine LIT tt_ok (by kernel_rfl) ?_
    refine LITSL 5 3 1 1 [.int .i64 v1_1] [v1_1] encI 0 (by kernel_rfl) rfl (fun _ => rfl) (fun n => rfl) ?_
    refine CALL 104 [.s (.int .i64 u2_0), .s (.ref 5)] (.s (.int .i64 (greatestD u2_0 ([v1_1])))) [] (by kernel_rfl) (goes_of (by kernel_rfl)) (by kernel_rfl) (by kernel_rfl) (fun _ nV w h => greatestD_calls (nV 5) u2_0 ([v1_1]) w (h.reads (id := 5) (kd := .own) (e := 3) (by kernel_rfl)) ) ?_
    refine WPO_all tt_ok (by kernel_rfl) ?_
    refine WP_join (decide ((greatestD u2_0 ([v1_1])) > v1_1)) (fun q => ⟨83, [(6, [], .s (.int .i64 (bif q then u2_0 else v1_1))), (5, [], .s (.int .i64 (bif q then (k1 : Int) else v1_2))), (21, [], .s (.int .i64 (k1 : Int))), (20, [], .s (.int .i64 (b.loads.length : Int))), (19, [], .s (.ref 0)), (1, [], .s (.p 3 0))], [(5, .sl .own 3 1 ([v1_1]) encI 0), (4, .box 61 [.int .i64 (b.loads.getD k1 zLoad).w.lo, .int .i64 (b.loads.getD k1 zLoad).w.hi, .int .i64 (b.loads.getD k1 zLoad).lanes]), (3, .box 24 [.ref 0, .int .i64 b.rule, .int .i64 b.most]), (0, .sl .ro 61 3 b.loads encLoad zLoad), (1, .pf NobodyAt (· = 1)), (2, .pf LanesAt (· = 0))], 6, []⟩) (by kernel_rfl) (fun hc8 => ?_) (fun hc8 => ?_) ?_
    · have hc8' := of_decide_eq_true hc8
      refine WP_region (WPO_all tt_ok (by kernel_rfl) ?_)
      exact Le_sel (ts := [6, 5, 21, 20, 19, 1]) (ids := [5, 4, 3, 0, 1, 2]) (nx := 6) (by kernel_rfl)
    · have hc8' := of_decide_eq_false hc8
      refine WP_skip ?_
      exact Le_sel (ts := [6, 5, 21, 20, 19, 1]) (ids := [5, 4, 3, 0, 1, 2]) (nx := 6) (by kernel_rfl)
    refine WP_region (WPO_all tt_ok (by kernel_rfl) ?_)
    show Q1 .normal _
    exact LA_go hq1 (ci := IntKind.i64.wrap ((k1 : Int) + 1)) (bif (decide ((greatestD u2_0 ([v1_1])) > v1_1)) then u2_0 else v1_1, bif (decide ((greatestD u2_0 ([v1_1])) > v1_1)) then (k1 : Int) else v1_2) hk1 (by show _ = ((k1 + 1 : Nat) : Int); rw [wrapI (by omega) (by omega)]; omega) (loopR_go hi1 hk1 hc3 (by unfold weighA_b1; simp only [hc5, hR2, cond_true, cond_false])) trivial (Le_sel (ts := [21, 20, 19, 6, 5, 1]) (ids := [3, 0, 1, 2]) (nx := 4) (by kernel_rfl))
  intro zz hR1 hP1 s' hl
  obtain ⟨u1_0, u1_1⟩ := zz
  refine WP_le hl ?_
  clear hl s'
  refine WP_seq (WP_seq (WP_region (WPO_all tt_ok (by kernel_rfl) ?_)))
  refine WP_cond (decide (u1_1 < 0)) (by kernel_rfl) (fun hc10 => ?_) (fun hc10 => ?_)
  · have hc10' := of_decide_eq_true hc10
    refine WP_seq (WP_region (WPO_all tt_ok (by kernel_rfl) ?_))
    refine WP_ret ?_
    exact ⟨.t [(false, [.int .i64 0]), (false, [.int .i64 4])], by kernel_rfl, fun nV w' h => ⟨by rw [show weighA b = (0, 4) from by unfold weighA; simp only [hc2, hR1, hc10, cond_true, cond_false]]; rfl, h.bel⟩⟩
  have hc10' := of_decide_eq_false hc10
  refine WP_skip ?_
  refine WP_seq (WP_region (WPO_all tt_ok (by kernel_rfl) ?_))
  refine WP_ret ?_
  exact ⟨.t [(false, [.int .i64 u1_1]), (false, [.int .i64 0])], by kernel_rfl, fun nV w' h => ⟨by rw [show weighA b = (u1_1, 0) from by unfold weighA; simp only [hc2, hR1, hc10, cond_true, cond_false]]; rfl, h.bel⟩⟩
end Go.Proofs.YthfnedbpmdkdjaaDoor.D
namespace Go.Proofs.YthfnedbpmdkdjaaDoor.D
open Go Go.RowKit Go.Proofs.YthfnedbpmdkdjaaDoor.Eng Go.Proofs.YthfnedbpmdkdjaaDoor.Cm
set_option linter.unusedVariables false
set_option linter.unusedSimpArgs false
set_option linter.unusedSectionVars false
def loadL (weight : Span) (lanes : Int) : Load :=
  (⟨weight, lanes⟩ : Load)
theorem loadL_calls  (weight : Span) (lanes : Int) (w : World)   : Calls Tryd.prog 42 #[.agg #[iv weight.lo, iv weight.hi], iv lanes] w fun e w' => e = .returned (.agg #[iv (loadL weight lanes).w.lo, iv (loadL weight lanes).w.hi, iv (loadL weight lanes).lanes]) ∧ Below w.heap.size w w' := by
  refine calls_of_WP (cx := cx0 w Eng.n0 0) (n := Eng.n0) (vs := [.g [.int .i64 weight.lo, .int .i64 weight.hi], .s (.int .i64 lanes)]) (hp := []) (nx := 0) tt_ok Tryd.func42 rfl rfl rfl (by kernel_rfl) (HSat0 _ _ _ _ _ _ (fun _ => rfl) (Nat.le_refl _)) (vsOk (by kernel_rfl)) ?_
  refine WP_seq (WP_region (WPO_all tt_ok (by kernel_rfl) ?_))
  refine WP_seq (WP_region (WPO_all tt_ok (by kernel_rfl) ?_))
  refine WP_ret ?_
  exact ⟨.g [.int .i64 weight.lo, .int .i64 weight.hi, .int .i64 lanes], by kernel_rfl, fun nV w' h => ⟨by rw [show loadL weight lanes = (⟨weight, lanes⟩ : Load) from rfl]; rfl, h.bel⟩⟩
def placeL (at_ : Int) (lane : Int) : Place :=
  (⟨at_, lane⟩ : Place)
theorem placeL_calls  (at_ : Int) (lane : Int) (w : World)   : Calls Tryd.prog 44 #[iv at_, iv lane] w fun e w' => e = .returned (.agg #[iv (placeL at_ lane).load, iv (placeL at_ lane).lane]) ∧ Below w.heap.size w w' := by
  refine calls_of_WP (cx := cx0 w Eng.n0 0) (n := Eng.n0) (vs := [.s (.int .i64 at_), .s (.int .i64 lane)]) (hp := []) (nx := 0) tt_ok Tryd.func44 rfl rfl rfl (by kernel_rfl) (HSat0 _ _ _ _ _ _ (fun _ => rfl) (Nat.le_refl _)) (vsOk (by kernel_rfl)) ?_
  refine WP_seq (WP_region (WPO_all tt_ok (by kernel_rfl) ?_))
  refine WP_seq (WP_region (WPO_all tt_ok (by kernel_rfl) ?_))
  refine WP_ret ?_
  exact ⟨.g [.int .i64 at_, .int .i64 lane], by kernel_rfl, fun nV w' h => ⟨by rw [show placeL at_ lane = (⟨at_, lane⟩ : Place) from rfl]; rfl, h.bel⟩⟩
def bookL (rule : Int) (most : Int) : DBook :=
  (⟨[(loadL (rangeF 10 12) 5), (loadL (rangeF 10 11) 5), (loadL (pointF 6) 7), (loadL (rangeF 20 22) 2)], rule, most⟩ : DBook)
theorem bookL_calls  (rule : Int) (most : Int) (w : World)   : Calls Tryd.prog 64 #[iv rule, iv most] w fun e w' => ∃ v0, e = .returned (.agg #[v0, iv (bookL rule most).rule, iv (bookL rule most).most]) ∧ Below w.heap.size w w' ∧ w'.ownsRow w.heap.size 61 3 v0 (bookL rule most).loads.length (flat (bookL rule most).loads encLoad) := by
  refine calls_of_WP (cx := cx0 w Eng.n0 0) (n := Eng.n0) (vs := [.s (.int .i64 rule), .s (.int .i64 most)]) (hp := []) (nx := 0) tt_ok Tryd.func64 rfl rfl rfl (by kernel_rfl) (HSat0 _ _ _ _ _ _ (fun _ => rfl) (Nat.le_refl _)) (vsOk (by kernel_rfl)) ?_
  refine WP_seq (WP_region (WPO_all tt_ok (by kernel_rfl) ?_))
  refine WP_seq (WP_region (CALL 40 [.s (.int .i64 10), .s (.int .i64 12)] (.g [.int .i64 (rangeF 10 12).lo, .int .i64 (rangeF 10 12).hi]) [] (by kernel_rfl) (goes_of (by kernel_rfl)) (by kernel_rfl) (by kernel_rfl) (fun _ nV w h => rangeF_calls  10 12 w  ) ?_))
  refine CALL 42 [.g [.int .i64 (rangeF 10 12).lo, .int .i64 (rangeF 10 12).hi], .s (.int .i64 5)] (.g [.int .i64 (loadL (rangeF 10 12) 5).w.lo, .int .i64 (loadL (rangeF 10 12) 5).w.hi, .int .i64 (loadL (rangeF 10 12) 5).lanes]) [] (by kernel_rfl) (goes_of (by kernel_rfl)) (by kernel_rfl) (by kernel_rfl) (fun _ nV w h => loadL_calls  (rangeF 10 12) 5 w  ) ?_
  refine CALL 40 [.s (.int .i64 10), .s (.int .i64 11)] (.g [.int .i64 (rangeF 10 11).lo, .int .i64 (rangeF 10 11).hi]) [] (by kernel_rfl) (goes_of (by kernel_rfl)) (by kernel_rfl) (by kernel_rfl) (fun _ nV w h => rangeF_calls  10 11 w  ) ?_
  refine CALL 42 [.g [.int .i64 (rangeF 10 11).lo, .int .i64 (rangeF 10 11).hi], .s (.int .i64 5)] (.g [.int .i64 (loadL (rangeF 10 11) 5).w.lo, .int .i64 (loadL (rangeF 10 11) 5).w.hi, .int .i64 (loadL (rangeF 10 11) 5).lanes]) [] (by kernel_rfl) (goes_of (by kernel_rfl)) (by kernel_rfl) (by kernel_rfl) (fun _ nV w h => loadL_calls  (rangeF 10 11) 5 w  ) ?_
  refine CALL 65 [.s (.int .i64 6)] (.g [.int .i64 (pointF 6).lo, .int .i64 (pointF 6).hi]) [] (by kernel_rfl) (goes_of (by kernel_rfl)) (by kernel_rfl) (by kernel_rfl) (fun _ nV w h => pointF_calls  6 w  ) ?_
  refine CALL 42 [.g [.int .i64 (pointF 6).lo, .int .i64 (pointF 6).hi], .s (.int .i64 7)] (.g [.int .i64 (loadL (pointF 6) 7).w.lo, .int .i64 (loadL (pointF 6) 7).w.hi, .int .i64 (loadL (pointF 6) 7).lanes]) [] (by kernel_rfl) (goes_of (by kernel_rfl)) (by kernel_rfl) (by kernel_rfl) (fun _ nV w h => loadL_calls  (pointF 6) 7 w  ) ?_
  refine CALL 40 [.s (.int .i64 20), .s (.int .i64 22)] (.g [.int .i64 (rangeF 20 22).lo, .int .i64 (rangeF 20 22).hi]) [] (by kernel_rfl) (goes_of (by kernel_rfl)) (by kernel_rfl) (by kernel_rfl) (fun _ nV w h => rangeF_calls  20 22 w  ) ?_
  refine CALL 42 [.g [.int .i64 (rangeF 20 22).lo, .int .i64 (rangeF 20 22).hi], .s (.int .i64 2)] (.g [.int .i64 (loadL (rangeF 20 22) 2).w.lo, .int .i64 (loadL (rangeF 20 22) 2).w.hi, .int .i64 (loadL (rangeF 20 22) 2).lanes]) [] (by kernel_rfl) (goes_of (by kernel_rfl)) (by kernel_rfl) (by kernel_rfl) (fun _ nV w h => loadL_calls  (rangeF 20 22) 2 w  ) ?_
  refine LIT tt_ok (by kernel_rfl) ?_
  refine LITSL 1 61 4 3 [.int .i64 (loadL (rangeF 10 12) 5).w.lo, .int .i64 (loadL (rangeF 10 12) 5).w.hi, .int .i64 (loadL (rangeF 10 12) 5).lanes, .int .i64 (loadL (rangeF 10 11) 5).w.lo, .int .i64 (loadL (rangeF 10 11) 5).w.hi, .int .i64 (loadL (rangeF 10 11) 5).lanes, .int .i64 (loadL (pointF 6) 7).w.lo, .int .i64 (loadL (pointF 6) 7).w.hi, .int .i64 (loadL (pointF 6) 7).lanes, .int .i64 (loadL (rangeF 20 22) 2).w.lo, .int .i64 (loadL (rangeF 20 22) 2).w.hi, .int .i64 (loadL (rangeF 20 22) 2).lanes] [(loadL (rangeF 10 12) 5), (loadL (rangeF 10 11) 5), (loadL (pointF 6) 7), (loadL (rangeF 20 22) 2)] encLoad zLoad (by kernel_rfl) rfl (fun _ => rfl) (fun n => rfl) ?_
  refine WPO_all tt_ok (by kernel_rfl) ?_
  refine WP_ret ?_
  exact ⟨.g [.ref 1, .int .i64 rule, .int .i64 most], by kernel_rfl, fun nV w' h => ⟨nV 1, by rw [show bookL rule most = (⟨[(loadL (rangeF 10 12) 5), (loadL (rangeF 10 11) 5), (loadL (pointF 6) 7), (loadL (rangeF 20 22) 2)], rule, most⟩ : DBook) from rfl]; rfl, h.bel, by rw [show bookL rule most = (⟨[(loadL (rangeF 10 12) 5), (loadL (rangeF 10 11) 5), (loadL (pointF 6) 7), (loadL (rangeF 20 22) 2)], rule, most⟩ : DBook) from rfl]; exact own_of (z := zLoad) h (by kernel_rfl)⟩⟩
def ownL  : DBook :=
  (bookL 12 40)
theorem ownL_calls   (w : World)   : Calls Tryd.prog 63 #[] w fun e w' => ∃ v0, e = .returned (.agg #[v0, iv ownL.rule, iv ownL.most]) ∧ Below w.heap.size w w' ∧ w'.ownsRow w.heap.size 61 3 v0 ownL.loads.length (flat ownL.loads encLoad) := by
  refine calls_of_WP (cx := cx0 w Eng.n0 0) (n := Eng.n0) (vs := []) (hp := []) (nx := 0) tt_ok Tryd.func63 rfl rfl rfl (by kernel_rfl) (HSat0 _ _ _ _ _ _ (fun _ => rfl) (Nat.le_refl _)) (vsOk (by kernel_rfl)) ?_
  refine WP_seq (WP_region (WPO_all tt_ok (by kernel_rfl) ?_))
  refine WP_seq (WP_region (CALLO 64 [.s (.int .i64 12), .s (.int .i64 40)] (.g [.ref 1, .int .i64 (bookL 12 40).rule, .int .i64 (bookL 12 40).most]) 61 3 (bookL 12 40).loads encLoad zLoad 1 (by kernel_rfl) (by kernel_rfl) (goes_of (by kernel_rfl)) (by kernel_rfl) (by kernel_rfl) (fun _ => rfl) ((fun nV w h => bookL_calls  12 40 w  )) ?_))
  refine WPO_all tt_ok (by kernel_rfl) ?_
  refine WP_ret ?_
  exact ⟨.g [.ref 1, .int .i64 (bookL 12 40).rule, .int .i64 (bookL 12 40).most], by kernel_rfl, fun nV w' h => ⟨nV 1, by rw [show ownL = (bookL 12 40) from rfl]; rfl, h.bel, by rw [show ownL = (bookL 12 40) from rfl]; exact own_of (z := zLoad) h (by kernel_rfl)⟩⟩
def strictL  : DBook :=
  (bookL 11 40)
theorem strictL_calls   (w : World)   : Calls Tryd.prog 67 #[] w fun e w' => ∃ v0, e = .returned (.agg #[v0, iv strictL.rule, iv strictL.most]) ∧ Below w.heap.size w w' ∧ w'.ownsRow w.heap.size 61 3 v0 strictL.loads.length (flat strictL.loads encLoad) := by
  refine calls_of_WP (cx := cx0 w Eng.n0 0) (n := Eng.n0) (vs := []) (hp := []) (nx := 0) tt_ok Tryd.func67 rfl rfl rfl (by kernel_rfl) (HSat0 _ _ _ _ _ _ (fun _ => rfl) (Nat.le_refl _)) (vsOk (by kernel_rfl)) ?_
  refine WP_seq (WP_region (WPO_all tt_ok (by kernel_rfl) ?_))
  refine WP_seq (WP_region (CALLO 64 [.s (.int .i64 11), .s (.int .i64 40)] (.g [.ref 1, .int .i64 (bookL 11 40).rule, .int .i64 (bookL 11 40).most]) 61 3 (bookL 11 40).loads encLoad zLoad 1 (by kernel_rfl) (by kernel_rfl) (goes_of (by kernel_rfl)) (by kernel_rfl) (by kernel_rfl) (fun _ => rfl) ((fun nV w h => bookL_calls  11 40 w  )) ?_))
  refine WPO_all tt_ok (by kernel_rfl) ?_
  refine WP_ret ?_
  exact ⟨.g [.ref 1, .int .i64 (bookL 11 40).rule, .int .i64 (bookL 11 40).most], by kernel_rfl, fun nV w' h => ⟨nV 1, by rw [show strictL = (bookL 11 40) from rfl]; rfl, h.bel, by rw [show strictL = (bookL 11 40) from rfl]; exact own_of (z := zLoad) h (by kernel_rfl)⟩⟩
def lightL  : DBook :=
  (bookL 12 28)
theorem lightL_calls   (w : World)   : Calls Tryd.prog 71 #[] w fun e w' => ∃ v0, e = .returned (.agg #[v0, iv lightL.rule, iv lightL.most]) ∧ Below w.heap.size w w' ∧ w'.ownsRow w.heap.size 61 3 v0 lightL.loads.length (flat lightL.loads encLoad) := by
  refine calls_of_WP (cx := cx0 w Eng.n0 0) (n := Eng.n0) (vs := []) (hp := []) (nx := 0) tt_ok Tryd.func71 rfl rfl rfl (by kernel_rfl) (HSat0 _ _ _ _ _ _ (fun _ => rfl) (Nat.le_refl _)) (vsOk (by kernel_rfl)) ?_
  refine WP_seq (WP_region (WPO_all tt_ok (by kernel_rfl) ?_))
  refine WP_seq (WP_region (CALLO 64 [.s (.int .i64 12), .s (.int .i64 28)] (.g [.ref 1, .int .i64 (bookL 12 28).rule, .int .i64 (bookL 12 28).most]) 61 3 (bookL 12 28).loads encLoad zLoad 1 (by kernel_rfl) (by kernel_rfl) (goes_of (by kernel_rfl)) (by kernel_rfl) (by kernel_rfl) (fun _ => rfl) ((fun nV w h => bookL_calls  12 28 w  )) ?_))
  refine WPO_all tt_ok (by kernel_rfl) ?_
  refine WP_ret ?_
  exact ⟨.g [.ref 1, .int .i64 (bookL 12 28).rule, .int .i64 (bookL 12 28).most], by kernel_rfl, fun nV w' h => ⟨nV 1, by rw [show lightL = (bookL 12 28) from rfl]; rfl, h.bel, by rw [show lightL = (bookL 12 28) from rfl]; exact own_of (z := zLoad) h (by kernel_rfl)⟩⟩
def wideL  : DBook :=
  (⟨ownL.loads ++ ([(loadL (pointF 30) 1)]), ownL.rule, ownL.most⟩ : DBook)
theorem wideL_calls   (w : World)   : Calls Tryd.prog 69 #[] w fun e w' => ∃ v0, e = .returned (.agg #[v0, iv wideL.rule, iv wideL.most]) ∧ Below w.heap.size w w' ∧ w'.ownsRow w.heap.size 61 3 v0 wideL.loads.length (flat wideL.loads encLoad) := by
  refine calls_of_WP (cx := cx0 w Eng.n0 0) (n := Eng.n0) (vs := []) (hp := []) (nx := 0) tt_ok Tryd.func69 rfl rfl rfl (by kernel_rfl) (HSat0 _ _ _ _ _ _ (fun _ => rfl) (Nat.le_refl _)) (vsOk (by kernel_rfl)) ?_
  have hol : ownL.loads.length = 4 := rfl
  refine WP_seq (WP_region (WPO_all tt_ok (by kernel_rfl) ?_))
  refine WP_seq (WP_region (CALLO 63 [] (.g [.ref 1, .int .i64 ownL.rule, .int .i64 ownL.most]) 61 3 ownL.loads encLoad zLoad 1 (by kernel_rfl) (by kernel_rfl) (goes_of (by kernel_rfl)) (by kernel_rfl) (by kernel_rfl) (fun _ => rfl) ((fun nV w h => ownL_calls   w  )) ?_))
  refine WPO_all tt_ok (by kernel_rfl) ?_
  refine WP_seq (WP_drawHM 7 [1] [2] (by kernel_rfl) (by kernel_rfl) ?_)
  refine H_run tt_ok [0, 1] (f' := 5) (by kernel_rfl) (by kernel_rfl) (by kernel_rfl) ?_
  refine H_step 2 (by kernel_rfl) (by kernel_rfl) (fun hfz cx' hx1 hx2 => ?_)
  refine CALL 65 [.s (.int .i64 30)] (.g [.int .i64 (pointF 30).lo, .int .i64 (pointF 30).hi]) [] (by kernel_rfl) (goes_of (by kernel_rfl)) (by kernel_rfl) (by kernel_rfl) (fun _ nV w h => pointF_calls  30 w  ) ?_
  refine WPO_end (by kernel_rfl) ⟨rfl, (hfz.fnds [2, 0] (by kernel_rfl) ⟨by kernel_rfl, by kernel_rfl, trivial⟩ (by kernel_rfl)), ?_⟩
  refine H_step 3 (by kernel_rfl) (by kernel_rfl) (fun hfz cx' hx1 hx2 => ?_)
  refine CALL 42 [.g [.int .i64 (pointF 30).lo, .int .i64 (pointF 30).hi], .s (.int .i64 1)] (.g [.int .i64 (loadL (pointF 30) 1).w.lo, .int .i64 (loadL (pointF 30) 1).w.hi, .int .i64 (loadL (pointF 30) 1).lanes]) [] (by kernel_rfl) (goes_of (by kernel_rfl)) (by kernel_rfl) (by kernel_rfl) (fun _ nV w h => loadL_calls  (pointF 30) 1 w  ) ?_
  refine WPO_end (by kernel_rfl) ⟨rfl, (hfz.fnds [2, 0] (by kernel_rfl) ⟨by kernel_rfl, by kernel_rfl, trivial⟩ (by kernel_rfl)), ?_⟩
  refine H_step 4 (by kernel_rfl) (by kernel_rfl) (fun hfz cx' hx1 hx2 => ?_)
  refine LIT tt_ok (by kernel_rfl) ?_
  refine LITSL 3 61 1 3 [.int .i64 (loadL (pointF 30) 1).w.lo, .int .i64 (loadL (pointF 30) 1).w.hi, .int .i64 (loadL (pointF 30) 1).lanes] [(loadL (pointF 30) 1)] encLoad zLoad (by kernel_rfl) rfl (fun _ => rfl) (fun n => rfl) ?_
  refine WPO_end (by kernel_rfl) ⟨rfl, (hfz.fnds [2, 0] (by kernel_rfl) ⟨by kernel_rfl, by kernel_rfl, trivial⟩ (by kernel_rfl)), ?_⟩
  refine H_step 5 (by kernel_rfl) (by kernel_rfl) (fun hfz cx' hx1 hx2 => ?_)
  refine APP tt_ok (.s (.ref 1)) (.s (.ref 3)) 22 61 (some 8) 3 ownL.loads ([(loadL (pointF 30) 1)]) encLoad zLoad (by kernel_rfl) (by kernel_rfl) (by kernel_rfl) (by kernel_rfl) (.inr (.inl ⟨1, rfl, (by kernel_rfl)⟩)) (.inr ⟨3, .own, rfl, (by kernel_rfl), (by simp only [List.length_cons, List.length_nil]; omega)⟩) (by simp) (fun y => rfl) (fun y => List.all_eq_true.1 rfl) (fun i hi => (by have hby : (tyL tt 61).map (·.bytes) = some 24 := (by kernel_rfl); rw [hi] at hby; simp only [Option.map_some, Option.some.injEq] at hby; rw [hby]; simp only [List.length_append, List.length_cons, List.length_nil]; omega)) ?_
  refine WPO_end (by kernel_rfl) ⟨rfl, (hfz.fnds [2, 0] (by kernel_rfl) ⟨by kernel_rfl, by kernel_rfl, trivial⟩ (by kernel_rfl)), ?_⟩
  refine H_run tt_ok [6] (f' := 0) (by kernel_rfl) (by kernel_rfl) (by kernel_rfl) ?_
  refine H_done (by kernel_rfl) ?_
  refine ⟨(by kernel_rfl), ?_⟩
  refine H_step 7 (by kernel_rfl) (by kernel_rfl) (fun hfz cx' hx1 hx2 => ?_)
  refine WPO_all tt_ok (by kernel_rfl) ?_
  refine ⟨rfl, (hfz.fnds [4, 3, 0] (by kernel_rfl) ⟨by kernel_rfl, by kernel_rfl, by kernel_rfl, trivial⟩ (by kernel_rfl)), ?_⟩
  refine H_done (by kernel_rfl) ?_
  refine WP_seq (WP_region (WPO_all tt_ok (by kernel_rfl) ?_))
  refine WP_ret ?_
  exact ⟨.g [.ref 4, .int .i64 ownL.rule, .int .i64 ownL.most], by kernel_rfl, fun nV w' h => ⟨nV 4, by rw [show wideL = (⟨ownL.loads ++ ([(loadL (pointF 30) 1)]), ownL.rule, ownL.most⟩ : DBook) from rfl]; rfl, h.bel, by rw [show wideL = (⟨ownL.loads ++ ([(loadL (pointF 30) 1)]), ownL.rule, ownL.most⟩ : DBook) from rfl]; exact own_of (z := zLoad) h (by kernel_rfl)⟩⟩
def bothL  : (List Place) :=
  [(placeL 0 0), (placeL 1 2)]
theorem bothL_calls   (w : World)   : Calls Tryd.prog 68 #[] w fun e w' => ∃ v0, e = .returned (v0) ∧ Below w.heap.size w w' ∧ w'.ownsRow w.heap.size 65 2 v0 bothL.length (flat bothL encPlace) := by
  refine calls_of_WP (cx := cx0 w Eng.n0 0) (n := Eng.n0) (vs := []) (hp := []) (nx := 0) tt_ok Tryd.func68 rfl rfl rfl (by kernel_rfl) (HSat0 _ _ _ _ _ _ (fun _ => rfl) (Nat.le_refl _)) (vsOk (by kernel_rfl)) ?_
  refine WP_seq (WP_region (WPO_all tt_ok (by kernel_rfl) ?_))
  refine WP_seq (WP_region (CALL 44 [.s (.int .i64 0), .s (.int .i64 0)] (.g [.int .i64 (placeL 0 0).load, .int .i64 (placeL 0 0).lane]) [] (by kernel_rfl) (goes_of (by kernel_rfl)) (by kernel_rfl) (by kernel_rfl) (fun _ nV w h => placeL_calls  0 0 w  ) ?_))
  refine CALL 44 [.s (.int .i64 1), .s (.int .i64 2)] (.g [.int .i64 (placeL 1 2).load, .int .i64 (placeL 1 2).lane]) [] (by kernel_rfl) (goes_of (by kernel_rfl)) (by kernel_rfl) (by kernel_rfl) (fun _ nV w h => placeL_calls  1 2 w  ) ?_
  refine LIT tt_ok (by kernel_rfl) ?_
  refine LITSL 0 65 2 2 [.int .i64 (placeL 0 0).load, .int .i64 (placeL 0 0).lane, .int .i64 (placeL 1 2).load, .int .i64 (placeL 1 2).lane] [(placeL 0 0), (placeL 1 2)] encPlace zPlace (by kernel_rfl) rfl (fun _ => rfl) (fun n => rfl) ?_
  refine WPO_all tt_ok (by kernel_rfl) ?_
  refine WP_ret ?_
  exact ⟨.s (.ref 0), by kernel_rfl, fun nV w' h => ⟨nV 0, rfl, h.bel, by rw [show bothL = ([(placeL 0 0), (placeL 1 2)]) from rfl]; exact own_of (z := zPlace) h (by kernel_rfl)⟩⟩
def sameL_c1 (l : List Place) (m : List Place) (k1 : Nat) : Unit → Bool := fun _ => decide ((k1 : Int) < (l.length : Int))
def sameL_b1 (l : List Place) (m : List Place) (k1 : Nat) : Unit → Bd Unit Bool := fun _ => (bif !((l.getD k1 zPlace).load == (m.getD k1 zPlace).load && (l.getD k1 zPlace).lane == (m.getD k1 zPlace).lane) then .ret false else .go ())
def sameL (l : List Place) (m : List Place) : Bool :=
  (bif (l.length : Int) != (m.length : Int) then false else (match loopR (sameL_c1 l m) (sameL_b1 l m) l.length 0 () with | .brk () => true | .ret r => r))
theorem sameL_calls (g0 g1 : Value) (l : List Place) (m : List Place) (w : World) (r0 : Reads w g0 2 l encPlace zPlace) (r1 : Reads w g1 2 m encPlace zPlace)  : Calls Tryd.prog 70 #[g0, g1] w fun e w' => e = .returned (.bool (sameL l m)) ∧ Below w.heap.size w w' := by
  refine calls_of_WP (cx := cx0 w (vn [g0, g1]) 2) (n := vn [g0, g1]) (vs := [.s (.ref 0), .s (.ref 1)]) (hp := [(0, .sl .ro 65 2 l encPlace zPlace), (1, .sl .ro 65 2 m encPlace zPlace)]) (nx := 2) tt_ok Tryd.func70 rfl rfl rfl (by kernel_rfl) (HSat_args (vn_one (by simp [r0.one, r1.one])) (Nat.le_refl _) ⟨⟨⟨fun _ => rfl, by decide, r0⟩, (Nat.le_of_ble_eq_true rfl)⟩, ⟨⟨fun _ => rfl, by decide, r1⟩, (Nat.le_of_ble_eq_true rfl)⟩, trivial⟩) (vsOk (by kernel_rfl)) ?_
  have hl0 := Reads.len r0
  have hl1 := Reads.len r1
  refine WP_seq (WP_region (WPO_all tt_ok (by kernel_rfl) ?_))
  refine WP_seq (WP_seq (WP_region (WPO_all tt_ok (by kernel_rfl) ?_)))
  refine WP_cond ((l.length : Int) != (m.length : Int)) (by kernel_rfl) (fun hc2 => ?_) (fun hc2 => ?_)
  · have hc2' := hc2; try simp only [Bool.and_eq_true, Bool.or_eq_true, Bool.and_eq_false_iff, Bool.or_eq_false_iff, Bool.not_eq_true', Bool.not_eq_false', decide_eq_true_eq, decide_eq_false_iff_not, beq_iff_eq, beq_eq_false_iff_ne, bne_iff_ne, bne_eq_false_iff_eq, ne_eq] at hc2'
    refine WP_seq (WP_region (WPO_all tt_ok (by kernel_rfl) ?_))
    refine WP_ret ?_
    exact ⟨.s (.bool false), by kernel_rfl, fun nV w' h => ⟨by rw [show sameL l m = false from by unfold sameL; simp only [hc2, cond_true, cond_false]]; rfl, h.bel⟩⟩
  have hc2' := hc2; try simp only [Bool.and_eq_true, Bool.or_eq_true, Bool.and_eq_false_iff, Bool.or_eq_false_iff, Bool.not_eq_true', Bool.not_eq_false', decide_eq_true_eq, decide_eq_false_iff_not, beq_iff_eq, beq_eq_false_iff_ne, bne_iff_ne, bne_eq_false_iff_eq, ne_eq] at hc2'
  refine WP_skip ?_
  refine WP_seq (WP_seq (WP_region (WPO_all tt_ok (by kernel_rfl) ?_)))
  refine WP_loopA (ρ := Bool) (sameL_c1 l m) (sameL_b1 l m) l.length () (fun k : Nat => (k : Int)) (fun (ci : Int) (zz : Unit) => ⟨26, [(5, [], .s (.int .i64 ci)), (0, [], .s (.ref 0)), (1, [], .s (.ref 1))], [(0, .sl .ro 65 2 l encPlace zPlace), (1, .sl .ro 65 2 m encPlace zPlace)], 2, []⟩) (fun zz : Unit => ⟨26, [], [(0, .sl .ro 65 2 l encPlace zPlace), (1, .sl .ro 65 2 m encPlace zPlace)], 2, []⟩) (fun k zz => True) trivial ⟨0, rfl, Le_sel (ts := [5, 0, 1]) (ids := [0, 1]) (nx := 2) (by kernel_rfl)⟩ ?_ ?_
  · intro k1 zz hn1 hp1 hi1 Q1 hq1 ho1
    refine WP_seq (WP_seq (WP_region (WPO_all tt_ok (by kernel_rfl) ?_)))
    refine WP_cond (decide ((k1 : Int) < (l.length : Int))) (by kernel_rfl) (fun hc3 => ?_) (fun hc3 => ?_)
    rotate_left
    · refine WP_exit ?_
      show Q1 (.exit 0) _
      exact LA_exit hq1 () (loopR_end hi1 hc3) ⟨k1, hn1, hp1⟩ (Le_sel (ts := []) (ids := [0, 1]) (nx := 2) (by kernel_rfl))
    have hc3' := of_decide_eq_true hc3
    have hk1 : k1 < l.length := by omega
    refine WP_skip ?_
    refine WP_seq (WP_block ?_)
    refine WP_seq (WP_draw (by kernel_rfl) (by kernel_rfl) ?_)
    refine WPQ_run tt_ok 2 (by kernel_rfl) ?_
    refine QIX tt_ok (k1 : Int) l.length [] (by kernel_rfl) (fun hG => ⟨by omega, by omega⟩) ?_
    refine WPQ_run tt_ok 3 (by kernel_rfl) ?_
    refine QIX tt_ok (k1 : Int) m.length [] (by kernel_rfl) (fun hG => ⟨by omega, by omega⟩) ?_
    refine WPQ_run tt_ok 1 (by kernel_rfl) ?_
    refine QBIN .neq 65 (.tmp 20) (.tmp 24) (.g [.int .i64 (l.getD k1 zPlace).load, .int .i64 (l.getD k1 zPlace).lane]) (.g [.int .i64 (m.getD k1 zPlace).load, .int .i64 (m.getD k1 zPlace).lane]) (.s (.bool (!((l.getD k1 zPlace).load == (m.getD k1 zPlace).load && (l.getD k1 zPlace).lane == (m.getD k1 zPlace).lane)))) [] (by kernel_rfl) (by kernel_rfl) (by kernel_rfl) (fun _ => BinOk_pairN (by kernel_rfl) _ _ _ _) ?_
    refine WPQ_nil ?_
    refine WP_cond (!((l.getD k1 zPlace).load == (m.getD k1 zPlace).load && (l.getD k1 zPlace).lane == (m.getD k1 zPlace).lane)) (by kernel_rfl) (fun hc5 => ?_) (fun hc5 => ?_)
    · have hc5' := hc5; try simp only [Bool.and_eq_true, Bool.or_eq_true, Bool.and_eq_false_iff, Bool.or_eq_false_iff, Bool.not_eq_true', Bool.not_eq_false', decide_eq_true_eq, decide_eq_false_iff_not, beq_iff_eq, beq_eq_false_iff_ne, bne_iff_ne, bne_eq_false_iff_eq, ne_eq] at hc5'
      refine WP_seq (WP_region (WPO_all tt_ok (by kernel_rfl) ?_))
      refine WP_ret ?_
      show Q1 .ret _
      refine LA_ret hq1 ?_
      have he6 := loopR_ret (r := false) hi1 hk1 hc3 (by unfold sameL_b1; simp only [hc5, cond_true, cond_false])
      exact ⟨.s (.bool false), by kernel_rfl, fun nV w' h => ⟨by rw [show sameL l m = false from by unfold sameL; simp only [hc2, he6, cond_true, cond_false]]; rfl, h.bel⟩⟩
    have hc5' := hc5; try simp only [Bool.and_eq_true, Bool.or_eq_true, Bool.and_eq_false_iff, Bool.or_eq_false_iff, Bool.not_eq_true', Bool.not_eq_false', decide_eq_true_eq, decide_eq_false_iff_not, beq_iff_eq, beq_eq_false_iff_ne, bne_iff_ne, bne_eq_false_iff_eq, ne_eq] at hc5'
    refine WP_skip ?_
    refine WP_region (WPO_all tt_ok (by kernel_rfl) ?_)
    show Q1 .normal _
    exact LA_go hq1 (ci := IntKind.i64.wrap ((k1 : Int) + 1)) () hk1 (by show _ = ((k1 + 1 : Nat) : Int); rw [wrapI (by omega) (by omega)]; omega) (loopR_go hi1 hk1 hc3 (by unfold sameL_b1; simp only [hc5, cond_true, cond_false])) trivial (Le_sel (ts := [5, 0, 1]) (ids := [0, 1]) (nx := 2) (by kernel_rfl))
  intro zz hR1 hP1 s' hl
  refine WP_le hl ?_
  clear hl s'
  refine WP_seq (WP_region (WPO_all tt_ok (by kernel_rfl) ?_))
  refine WP_ret ?_
  exact ⟨.s (.bool true), by kernel_rfl, fun nV w' h => ⟨by rw [show sameL l m = true from by unfold sameL; simp only [hc2, hR1, cond_true, cond_false]]; rfl, h.bel⟩⟩
end Go.Proofs.YthfnedbpmdkdjaaDoor.D
namespace Go.Proofs.YthfnedbpmdkdjaaDoor.D
open Go Go.RowKit Go.Proofs.YthfnedbpmdkdjaaDoor.Eng Go.Proofs.YthfnedbpmdkdjaaDoor.Cm
set_option linter.unusedVariables false
set_option linter.unusedSimpArgs false
set_option linter.unusedSectionVars false
def stowedL  : Bool :=
  (bif ((((((((((listA ownL bothL).2 != 0) || ((levelA strictL ([(placeL 0 0)])).2 != 0)) || ((tiltsA ownL ([(placeL 0 0), (placeL 1 0)])).2 != 0)) || ((stowA strictL ([0, 1])).2 != 0)) || ((mostA ownL).2 != 0)) || (!((listA ownL bothL).1.lo == (rangeF (-1) 2).lo && (listA ownL bothL).1.hi == (rangeF (-1) 2).hi))) || ((levelA strictL ([(placeL 0 0)])).1 != 1)) || ((tiltsA ownL ([(placeL 0 0), (placeL 1 0)])).1 != 1)) || (!(sameL (stowA strictL ([0, 1])).1 (bif (true && ((((((((((listA ownL bothL).2 != 0) || ((levelA strictL ([(placeL 0 0)])).2 != 0)) || ((tiltsA ownL ([(placeL 0 0), (placeL 1 0)])).2 != 0)) || ((stowA strictL ([0, 1])).2 != 0)) || ((mostA ownL).2 != 0)) || (!((listA ownL bothL).1.lo == (rangeF (-1) 2).lo && (listA ownL bothL).1.hi == (rangeF (-1) 2).hi))) || ((levelA strictL ([(placeL 0 0)])).1 != 1)) || ((tiltsA ownL ([(placeL 0 0), (placeL 1 0)])).1 != 1)) == false)) then [(placeL 1 0), (placeL 0 2)] else [])))) || (!(alikeF (mostA ownL).1 (bif (true && (((((((((((listA ownL bothL).2 != 0) || ((levelA strictL ([(placeL 0 0)])).2 != 0)) || ((tiltsA ownL ([(placeL 0 0), (placeL 1 0)])).2 != 0)) || ((stowA strictL ([0, 1])).2 != 0)) || ((mostA ownL).2 != 0)) || (!((listA ownL bothL).1.lo == (rangeF (-1) 2).lo && (listA ownL bothL).1.hi == (rangeF (-1) 2).hi))) || ((levelA strictL ([(placeL 0 0)])).1 != 1)) || ((tiltsA ownL ([(placeL 0 0), (placeL 1 0)])).1 != 1)) || (!(sameL (stowA strictL ([0, 1])).1 (bif (true && ((((((((((listA ownL bothL).2 != 0) || ((levelA strictL ([(placeL 0 0)])).2 != 0)) || ((tiltsA ownL ([(placeL 0 0), (placeL 1 0)])).2 != 0)) || ((stowA strictL ([0, 1])).2 != 0)) || ((mostA ownL).2 != 0)) || (!((listA ownL bothL).1.lo == (rangeF (-1) 2).lo && (listA ownL bothL).1.hi == (rangeF (-1) 2).hi))) || ((levelA strictL ([(placeL 0 0)])).1 != 1)) || ((tiltsA ownL ([(placeL 0 0), (placeL 1 0)])).1 != 1)) == false)) then [(placeL 1 0), (placeL 0 2)] else [])))) == false)) then [0, 1, 2] else []))) then false else ((((((fewestA lightL).2 == 0) && ((neverA wideL).2 == 0)) && ((weighA ownL).2 == 0)) && (alikeF (fewestA lightL).1 (bif (true && (((((fewestA lightL).2 == 0) && ((neverA wideL).2 == 0)) && ((weighA ownL).2 == 0)) == true)) then [0, 0, 1, 1] else []))) && (alikeF (neverA wideL).1 (bif (true && ((((((fewestA lightL).2 == 0) && ((neverA wideL).2 == 0)) && ((weighA ownL).2 == 0)) && (alikeF (fewestA lightL).1 (bif (true && (((((fewestA lightL).2 == 0) && ((neverA wideL).2 == 0)) && ((weighA ownL).2 == 0)) == true)) then [0, 0, 1, 1] else []))) == true)) then [4] else []))) && ((weighA ownL).1 == 0))
theorem stowedL_calls   (w : World)  (hnb : NobodyAt w) (hla : LanesAt w) : Calls Tryd.prog 21 #[] w fun e w' => e = .returned (.bool stowedL) ∧ Below w.heap.size w w' := by
  refine calls_of_WP (cx := cx0 w Eng.n0 0) (n := Eng.n0) (vs := []) (hp := [(0, .pf NobodyAt (· = 1)), (1, .pf LanesAt (· = 0))]) (nx := 2) tt_ok Tryd.func21 rfl rfl rfl (by kernel_rfl) (HSat_args (fun _ => rfl) (by decide) ⟨⟨⟨hnb, fun w1 w2 h1 hw => (hw 1 rfl).trans h1, fun g hg => by cases hg; exact (Array.getElem?_eq_some_iff.1 hnb).1⟩, (Nat.le_of_ble_eq_true rfl)⟩, ⟨⟨hla, fun w1 w2 h1 hw => (hw 0 rfl).trans h1, fun g hg => by cases hg; exact (Array.getElem?_eq_some_iff.1 hla).1⟩, (Nat.le_of_ble_eq_true rfl)⟩, trivial⟩) (vsOk (by kernel_rfl)) ?_
  refine WP_seq (WP_region (WPO_all tt_ok (by kernel_rfl) ?_))
  refine WP_seq (WP_region (CALLO 63 [] (.g [.ref 2, .int .i64 ownL.rule, .int .i64 ownL.most]) 61 3 ownL.loads encLoad zLoad 2 (by kernel_rfl) (by kernel_rfl) (goes_of (by kernel_rfl)) (by kernel_rfl) (by kernel_rfl) (fun _ => rfl) ((fun nV w h => ownL_calls   w  )) ?_))
  refine CALLO 68 [] (.s (.ref 3)) 65 2 bothL encPlace zPlace 3 (by kernel_rfl) (by kernel_rfl) (goes_of (by kernel_rfl)) (by kernel_rfl) (by kernel_rfl) (fun _ => rfl) ((fun nV w h => bothL_calls   w  )) ?_
  refine CALL 30 [.g [.ref 2, .int .i64 ownL.rule, .int .i64 ownL.most], .s (.ref 3)] (.t [(true, [.int .i64 (listA ownL bothL).1.lo, .int .i64 (listA ownL bothL).1.hi]), (false, [.int .i64 (listA ownL bothL).2])]) [] (by kernel_rfl) (goes_of (by kernel_rfl)) (by kernel_rfl) (by kernel_rfl) (fun _ nV w h => listA_calls (nV 2) (nV 3) ownL bothL w (h.reads (id := 2) (kd := .own) (e := 61) (by kernel_rfl)) (h.reads (id := 3) (kd := .own) (e := 65) (by kernel_rfl)) (h.ents (0, .pf NobodyAt (· = 1)) (fnd_mem (by kernel_rfl))).1 (h.ents (1, .pf LanesAt (· = 0)) (fnd_mem (by kernel_rfl))).1 ) ?_
  refine WPO_all tt_ok (by kernel_rfl) ?_
  refine WP_seq (WP_region (CALLO 67 [] (.g [.ref 5, .int .i64 strictL.rule, .int .i64 strictL.most]) 61 3 strictL.loads encLoad zLoad 5 (by kernel_rfl) (by kernel_rfl) (goes_of (by kernel_rfl)) (by kernel_rfl) (by kernel_rfl) (fun _ => rfl) ((fun nV w h => strictL_calls   w  )) ?_))
  refine CALL 44 [.s (.int .i64 0), .s (.int .i64 0)] (.g [.int .i64 (placeL 0 0).load, .int .i64 (placeL 0 0).lane]) [] (by kernel_rfl) (goes_of (by kernel_rfl)) (by kernel_rfl) (by kernel_rfl) (fun _ nV w h => placeL_calls  0 0 w  ) ?_
  refine LIT tt_ok (by kernel_rfl) ?_
  refine LITSL 6 65 1 2 [.int .i64 (placeL 0 0).load, .int .i64 (placeL 0 0).lane] [(placeL 0 0)] encPlace zPlace (by kernel_rfl) rfl (fun _ => rfl) (fun n => rfl) ?_
  refine CALL 31 [.g [.ref 5, .int .i64 strictL.rule, .int .i64 strictL.most], .s (.ref 6)] (.t [(false, [.int .i64 (levelA strictL ([(placeL 0 0)])).1]), (false, [.int .i64 (levelA strictL ([(placeL 0 0)])).2])]) [] (by kernel_rfl) (goes_of (by kernel_rfl)) (by kernel_rfl) (by kernel_rfl) (fun _ nV w h => levelA_calls (nV 5) (nV 6) strictL ([(placeL 0 0)]) w (h.reads (id := 5) (kd := .own) (e := 61) (by kernel_rfl)) (h.reads (id := 6) (kd := .own) (e := 65) (by kernel_rfl)) (h.ents (0, .pf NobodyAt (· = 1)) (fnd_mem (by kernel_rfl))).1 (h.ents (1, .pf LanesAt (· = 0)) (fnd_mem (by kernel_rfl))).1 ) ?_
  refine WPO_all tt_ok (by kernel_rfl) ?_
  refine WP_seq (WP_region (CALLO 63 [] (.g [.ref 7, .int .i64 ownL.rule, .int .i64 ownL.most]) 61 3 ownL.loads encLoad zLoad 7 (by kernel_rfl) (by kernel_rfl) (goes_of (by kernel_rfl)) (by kernel_rfl) (by kernel_rfl) (fun _ => rfl) ((fun nV w h => ownL_calls   w  )) ?_))
  refine CALL 44 [.s (.int .i64 0), .s (.int .i64 0)] (.g [.int .i64 (placeL 0 0).load, .int .i64 (placeL 0 0).lane]) [] (by kernel_rfl) (goes_of (by kernel_rfl)) (by kernel_rfl) (by kernel_rfl) (fun _ nV w h => placeL_calls  0 0 w  ) ?_
  refine CALL 44 [.s (.int .i64 1), .s (.int .i64 0)] (.g [.int .i64 (placeL 1 0).load, .int .i64 (placeL 1 0).lane]) [] (by kernel_rfl) (goes_of (by kernel_rfl)) (by kernel_rfl) (by kernel_rfl) (fun _ nV w h => placeL_calls  1 0 w  ) ?_
  refine LIT tt_ok (by kernel_rfl) ?_
  refine LITSL 8 65 2 2 [.int .i64 (placeL 0 0).load, .int .i64 (placeL 0 0).lane, .int .i64 (placeL 1 0).load, .int .i64 (placeL 1 0).lane] [(placeL 0 0), (placeL 1 0)] encPlace zPlace (by kernel_rfl) rfl (fun _ => rfl) (fun n => rfl) ?_
  refine CALL 32 [.g [.ref 7, .int .i64 ownL.rule, .int .i64 ownL.most], .s (.ref 8)] (.t [(false, [.int .i64 (tiltsA ownL ([(placeL 0 0), (placeL 1 0)])).1]), (false, [.int .i64 (tiltsA ownL ([(placeL 0 0), (placeL 1 0)])).2])]) [] (by kernel_rfl) (goes_of (by kernel_rfl)) (by kernel_rfl) (by kernel_rfl) (fun _ nV w h => tiltsA_calls (nV 7) (nV 8) ownL ([(placeL 0 0), (placeL 1 0)]) w (h.reads (id := 7) (kd := .own) (e := 61) (by kernel_rfl)) (h.reads (id := 8) (kd := .own) (e := 65) (by kernel_rfl)) (h.ents (0, .pf NobodyAt (· = 1)) (fnd_mem (by kernel_rfl))).1 (h.ents (1, .pf LanesAt (· = 0)) (fnd_mem (by kernel_rfl))).1 ) ?_
  refine WPO_all tt_ok (by kernel_rfl) ?_
  refine WP_seq (WP_region (CALLO 67 [] (.g [.ref 9, .int .i64 strictL.rule, .int .i64 strictL.most]) 61 3 strictL.loads encLoad zLoad 9 (by kernel_rfl) (by kernel_rfl) (goes_of (by kernel_rfl)) (by kernel_rfl) (by kernel_rfl) (fun _ => rfl) ((fun nV w h => strictL_calls   w  )) ?_))
  refine LIT tt_ok (by kernel_rfl) ?_
  refine LITSL 10 3 2 1 [.int .i64 0, .int .i64 1] [0, 1] encI 0 (by kernel_rfl) rfl (fun _ => rfl) (fun n => rfl) ?_
  refine CALLR 36 [.g [.ref 9, .int .i64 strictL.rule, .int .i64 strictL.most], .s (.ref 10)] (.t [(false, [.ref 11]), (false, [.int .i64 (stowA strictL ([0, 1])).2])]) 65 2 (stowA strictL ([0, 1])).1 encPlace zPlace 11 (by kernel_rfl) (by kernel_rfl) (goes_of (by kernel_rfl)) (by kernel_rfl) (by kernel_rfl) (by decide) (fun _ => rfl) (fun nV w h => (stowA_calls (nV 9) (nV 10) strictL ([0, 1]) w (h.reads (id := 9) (kd := .own) (e := 61) (by kernel_rfl)) (h.reads (id := 10) (kd := .own) (e := 3) (by kernel_rfl)) (h.ents (0, .pf NobodyAt (· = 1)) (fnd_mem (by kernel_rfl))).1 (h.ents (1, .pf LanesAt (· = 0)) (fnd_mem (by kernel_rfl))).1 ).mono fun e w' h1 => weak_fresh h1) ?_
  refine WPO_all tt_ok (by kernel_rfl) ?_
  refine WP_seq (WP_region (CALLO 63 [] (.g [.ref 12, .int .i64 ownL.rule, .int .i64 ownL.most]) 61 3 ownL.loads encLoad zLoad 12 (by kernel_rfl) (by kernel_rfl) (goes_of (by kernel_rfl)) (by kernel_rfl) (by kernel_rfl) (fun _ => rfl) ((fun nV w h => ownL_calls   w  )) ?_))
  refine CALLR 45 [.g [.ref 12, .int .i64 ownL.rule, .int .i64 ownL.most]] (.t [(false, [.ref 13]), (false, [.int .i64 (mostA ownL).2])]) 3 1 (mostA ownL).1 encI 0 13 (by kernel_rfl) (by kernel_rfl) (goes_of (by kernel_rfl)) (by kernel_rfl) (by kernel_rfl) (by decide) (fun _ => rfl) (fun nV w h => (mostA_calls (nV 12) ownL w (h.reads (id := 12) (kd := .own) (e := 61) (by kernel_rfl)) (h.ents (0, .pf NobodyAt (· = 1)) (fnd_mem (by kernel_rfl))).1 (h.ents (1, .pf LanesAt (· = 0)) (fnd_mem (by kernel_rfl))).1 ).mono fun e w' h1 => weak_fresh h1) ?_
  refine WPO_all tt_ok (by kernel_rfl) ?_
  refine WP_seq (WP_seq (WP_drawH [] (by kernel_rfl) (by kernel_rfl) ?_))
  refine H_run tt_ok [0, 1, 2, 3, 4, 5, 6, 7, 8, 9, 10, 11, 12, 13, 14, 15, 16, 17, 18, 19] (f' := 25) (by kernel_rfl) (by kernel_rfl) (by kernel_rfl) ?_
  refine H_step 20 (by kernel_rfl) (by kernel_rfl) (fun hfz cx' hx1 hx2 => ?_)
  refine CALL 40 [.s (.int .i64 (-1)), .s (.int .i64 2)] (.g [.int .i64 (rangeF (-1) 2).lo, .int .i64 (rangeF (-1) 2).hi]) [((((((listA ownL bothL).2 != 0) || ((levelA strictL ([(placeL 0 0)])).2 != 0)) || ((tiltsA ownL ([(placeL 0 0), (placeL 1 0)])).2 != 0)) || ((stowA strictL ([0, 1])).2 != 0)) || ((mostA ownL).2 != 0), false)] (by kernel_rfl) (goes_of (by kernel_rfl)) (by kernel_rfl) (by kernel_rfl) (fun _ nV w h => rangeF_calls  (-1) 2 w  ) ?_
  refine WPO_end (by kernel_rfl) ⟨rfl, (hfz.fnds [13, 12, 11, 10, 9, 8, 7, 6, 5, 4, 3, 2, 0, 1] (by kernel_rfl) ⟨by kernel_rfl, by kernel_rfl, by kernel_rfl, by kernel_rfl, by kernel_rfl, by kernel_rfl, by kernel_rfl, by kernel_rfl, by kernel_rfl, by kernel_rfl, by kernel_rfl, by kernel_rfl, by kernel_rfl, by kernel_rfl, trivial⟩ (by kernel_rfl)), ?_⟩
  refine H_BIN 21 .neq 43 (.tmp 65) (.tmp 66) (.g [.int .i64 (listA ownL bothL).1.lo, .int .i64 (listA ownL bothL).1.hi]) (.g [.int .i64 (rangeF (-1) 2).lo, .int .i64 (rangeF (-1) 2).hi]) (.s (.bool (!((listA ownL bothL).1.lo == (rangeF (-1) 2).lo && (listA ownL bothL).1.hi == (rangeF (-1) 2).hi)))) [((((((listA ownL bothL).2 != 0) || ((levelA strictL ([(placeL 0 0)])).2 != 0)) || ((tiltsA ownL ([(placeL 0 0), (placeL 1 0)])).2 != 0)) || ((stowA strictL ([0, 1])).2 != 0)) || ((mostA ownL).2 != 0), false)] (by kernel_rfl) (by kernel_rfl) (by kernel_rfl) (fun _ _ => BinOk_pairN (by kernel_rfl) _ _ _ _) (by kernel_rfl) (by kernel_rfl) ?_
  refine H_run tt_ok [22, 23, 24, 25, 26, 27, 28, 29, 30, 31, 32] (f' := 12) (by kernel_rfl) (by kernel_rfl) (by kernel_rfl) ?_
  refine H_step 33 (by kernel_rfl) (by kernel_rfl) (fun hfz cx' hx1 hx2 => ?_)
  refine CALL 44 [.s (.int .i64 1), .s (.int .i64 0)] (.g [.int .i64 (placeL 1 0).load, .int .i64 (placeL 1 0).lane]) [(((((((((listA ownL bothL).2 != 0) || ((levelA strictL ([(placeL 0 0)])).2 != 0)) || ((tiltsA ownL ([(placeL 0 0), (placeL 1 0)])).2 != 0)) || ((stowA strictL ([0, 1])).2 != 0)) || ((mostA ownL).2 != 0)) || (!((listA ownL bothL).1.lo == (rangeF (-1) 2).lo && (listA ownL bothL).1.hi == (rangeF (-1) 2).hi))) || ((levelA strictL ([(placeL 0 0)])).1 != 1)) || ((tiltsA ownL ([(placeL 0 0), (placeL 1 0)])).1 != 1), false)] (by kernel_rfl) (goes_of (by kernel_rfl)) (by kernel_rfl) (by kernel_rfl) (fun _ nV w h => placeL_calls  1 0 w  ) ?_
  refine WPO_end (by kernel_rfl) ⟨rfl, (hfz.fnds [13, 12, 11, 10, 9, 8, 7, 6, 5, 4, 3, 2, 0, 1] (by kernel_rfl) ⟨by kernel_rfl, by kernel_rfl, by kernel_rfl, by kernel_rfl, by kernel_rfl, by kernel_rfl, by kernel_rfl, by kernel_rfl, by kernel_rfl, by kernel_rfl, by kernel_rfl, by kernel_rfl, by kernel_rfl, by kernel_rfl, trivial⟩ (by kernel_rfl)), ?_⟩
  refine H_step 34 (by kernel_rfl) (by kernel_rfl) (fun hfz cx' hx1 hx2 => ?_)
  refine CALL 44 [.s (.int .i64 0), .s (.int .i64 2)] (.g [.int .i64 (placeL 0 2).load, .int .i64 (placeL 0 2).lane]) [(((((((((listA ownL bothL).2 != 0) || ((levelA strictL ([(placeL 0 0)])).2 != 0)) || ((tiltsA ownL ([(placeL 0 0), (placeL 1 0)])).2 != 0)) || ((stowA strictL ([0, 1])).2 != 0)) || ((mostA ownL).2 != 0)) || (!((listA ownL bothL).1.lo == (rangeF (-1) 2).lo && (listA ownL bothL).1.hi == (rangeF (-1) 2).hi))) || ((levelA strictL ([(placeL 0 0)])).1 != 1)) || ((tiltsA ownL ([(placeL 0 0), (placeL 1 0)])).1 != 1), false)] (by kernel_rfl) (goes_of (by kernel_rfl)) (by kernel_rfl) (by kernel_rfl) (fun _ nV w h => placeL_calls  0 2 w  ) ?_
  refine WPO_end (by kernel_rfl) ⟨rfl, (hfz.fnds [13, 12, 11, 10, 9, 8, 7, 6, 5, 4, 3, 2, 0, 1] (by kernel_rfl) ⟨by kernel_rfl, by kernel_rfl, by kernel_rfl, by kernel_rfl, by kernel_rfl, by kernel_rfl, by kernel_rfl, by kernel_rfl, by kernel_rfl, by kernel_rfl, by kernel_rfl, by kernel_rfl, by kernel_rfl, by kernel_rfl, trivial⟩ (by kernel_rfl)), ?_⟩
  refine H_step 35 (by kernel_rfl) (by kernel_rfl) (fun hfz cx' hx1 hx2 => ?_)
  refine LITG tt_ok [(77, false)] (true && ((((((((((listA ownL bothL).2 != 0) || ((levelA strictL ([(placeL 0 0)])).2 != 0)) || ((tiltsA ownL ([(placeL 0 0), (placeL 1 0)])).2 != 0)) || ((stowA strictL ([0, 1])).2 != 0)) || ((mostA ownL).2 != 0)) || (!((listA ownL bothL).1.lo == (rangeF (-1) 2).lo && (listA ownL bothL).1.hi == (rangeF (-1) 2).hi))) || ((levelA strictL ([(placeL 0 0)])).1 != 1)) || ((tiltsA ownL ([(placeL 0 0), (placeL 1 0)])).1 != 1)) == false)) 65 2 2 [.int .i64 (placeL 1 0).load, .int .i64 (placeL 1 0).lane, .int .i64 (placeL 0 2).load, .int .i64 (placeL 0 2).lane] [(placeL 1 0), (placeL 0 2)] encPlace zPlace (by kernel_rfl) (by kernel_rfl) rfl (fun _ => rfl) (fun n => rfl) (by kernel_rfl) ?_
  refine WPO_end (by kernel_rfl) ⟨rfl, (hfz.fnds [13, 12, 11, 10, 9, 8, 7, 6, 5, 4, 3, 2, 0, 1] (by kernel_rfl) ⟨by kernel_rfl, by kernel_rfl, by kernel_rfl, by kernel_rfl, by kernel_rfl, by kernel_rfl, by kernel_rfl, by kernel_rfl, by kernel_rfl, by kernel_rfl, by kernel_rfl, by kernel_rfl, by kernel_rfl, by kernel_rfl, trivial⟩ (by kernel_rfl)), ?_⟩
  refine H_step 36 (by kernel_rfl) (by kernel_rfl) (fun hfz cx' hx1 hx2 => ?_)
  refine CALL 70 [.s (.ref 11), .s (.ref 14)] (.s (.bool (sameL (stowA strictL ([0, 1])).1 (bif (true && ((((((((((listA ownL bothL).2 != 0) || ((levelA strictL ([(placeL 0 0)])).2 != 0)) || ((tiltsA ownL ([(placeL 0 0), (placeL 1 0)])).2 != 0)) || ((stowA strictL ([0, 1])).2 != 0)) || ((mostA ownL).2 != 0)) || (!((listA ownL bothL).1.lo == (rangeF (-1) 2).lo && (listA ownL bothL).1.hi == (rangeF (-1) 2).hi))) || ((levelA strictL ([(placeL 0 0)])).1 != 1)) || ((tiltsA ownL ([(placeL 0 0), (placeL 1 0)])).1 != 1)) == false)) then [(placeL 1 0), (placeL 0 2)] else [])))) [(((((((((listA ownL bothL).2 != 0) || ((levelA strictL ([(placeL 0 0)])).2 != 0)) || ((tiltsA ownL ([(placeL 0 0), (placeL 1 0)])).2 != 0)) || ((stowA strictL ([0, 1])).2 != 0)) || ((mostA ownL).2 != 0)) || (!((listA ownL bothL).1.lo == (rangeF (-1) 2).lo && (listA ownL bothL).1.hi == (rangeF (-1) 2).hi))) || ((levelA strictL ([(placeL 0 0)])).1 != 1)) || ((tiltsA ownL ([(placeL 0 0), (placeL 1 0)])).1 != 1), false)] (by kernel_rfl) (goes_of (by kernel_rfl)) (by kernel_rfl) (by kernel_rfl) (fun _ nV w h => sameL_calls (nV 11) (nV 14) (stowA strictL ([0, 1])).1 (bif (true && ((((((((((listA ownL bothL).2 != 0) || ((levelA strictL ([(placeL 0 0)])).2 != 0)) || ((tiltsA ownL ([(placeL 0 0), (placeL 1 0)])).2 != 0)) || ((stowA strictL ([0, 1])).2 != 0)) || ((mostA ownL).2 != 0)) || (!((listA ownL bothL).1.lo == (rangeF (-1) 2).lo && (listA ownL bothL).1.hi == (rangeF (-1) 2).hi))) || ((levelA strictL ([(placeL 0 0)])).1 != 1)) || ((tiltsA ownL ([(placeL 0 0), (placeL 1 0)])).1 != 1)) == false)) then [(placeL 1 0), (placeL 0 2)] else []) w (h.reads (id := 11) (kd := .ro) (e := 65) (by kernel_rfl)) (h.reads (id := 14) (kd := .own) (e := 65) (by kernel_rfl)) ) ?_
  refine WPO_end (by kernel_rfl) ⟨rfl, (hfz.fnds [13, 12, 11, 10, 9, 8, 7, 6, 5, 4, 3, 2, 0, 1] (by kernel_rfl) ⟨by kernel_rfl, by kernel_rfl, by kernel_rfl, by kernel_rfl, by kernel_rfl, by kernel_rfl, by kernel_rfl, by kernel_rfl, by kernel_rfl, by kernel_rfl, by kernel_rfl, by kernel_rfl, by kernel_rfl, by kernel_rfl, trivial⟩ (by kernel_rfl)), ?_⟩
  refine H_run tt_ok [37, 38, 39, 40] (f' := 4) (by kernel_rfl) (by kernel_rfl) (by kernel_rfl) ?_
  refine H_step 41 (by kernel_rfl) (by kernel_rfl) (fun hfz cx' hx1 hx2 => ?_)
  refine LITG tt_ok [(85, false)] (true && (((((((((((listA ownL bothL).2 != 0) || ((levelA strictL ([(placeL 0 0)])).2 != 0)) || ((tiltsA ownL ([(placeL 0 0), (placeL 1 0)])).2 != 0)) || ((stowA strictL ([0, 1])).2 != 0)) || ((mostA ownL).2 != 0)) || (!((listA ownL bothL).1.lo == (rangeF (-1) 2).lo && (listA ownL bothL).1.hi == (rangeF (-1) 2).hi))) || ((levelA strictL ([(placeL 0 0)])).1 != 1)) || ((tiltsA ownL ([(placeL 0 0), (placeL 1 0)])).1 != 1)) || (!(sameL (stowA strictL ([0, 1])).1 (bif (true && ((((((((((listA ownL bothL).2 != 0) || ((levelA strictL ([(placeL 0 0)])).2 != 0)) || ((tiltsA ownL ([(placeL 0 0), (placeL 1 0)])).2 != 0)) || ((stowA strictL ([0, 1])).2 != 0)) || ((mostA ownL).2 != 0)) || (!((listA ownL bothL).1.lo == (rangeF (-1) 2).lo && (listA ownL bothL).1.hi == (rangeF (-1) 2).hi))) || ((levelA strictL ([(placeL 0 0)])).1 != 1)) || ((tiltsA ownL ([(placeL 0 0), (placeL 1 0)])).1 != 1)) == false)) then [(placeL 1 0), (placeL 0 2)] else [])))) == false)) 3 3 1 [.int .i64 0, .int .i64 1, .int .i64 2] [0, 1, 2] encI 0 (by kernel_rfl) (by kernel_rfl) rfl (fun _ => rfl) (fun n => rfl) (by kernel_rfl) ?_
  refine WPO_end (by kernel_rfl) ⟨rfl, (hfz.fnds [13, 12, 11, 10, 9, 8, 7, 6, 5, 4, 3, 2, 0, 1] (by kernel_rfl) ⟨by kernel_rfl, by kernel_rfl, by kernel_rfl, by kernel_rfl, by kernel_rfl, by kernel_rfl, by kernel_rfl, by kernel_rfl, by kernel_rfl, by kernel_rfl, by kernel_rfl, by kernel_rfl, by kernel_rfl, by kernel_rfl, trivial⟩ (by kernel_rfl)), ?_⟩
  refine H_step 42 (by kernel_rfl) (by kernel_rfl) (fun hfz cx' hx1 hx2 => ?_)
  refine CALL 24 [.s (.ref 13), .s (.ref 15)] (.s (.bool (alikeF (mostA ownL).1 (bif (true && (((((((((((listA ownL bothL).2 != 0) || ((levelA strictL ([(placeL 0 0)])).2 != 0)) || ((tiltsA ownL ([(placeL 0 0), (placeL 1 0)])).2 != 0)) || ((stowA strictL ([0, 1])).2 != 0)) || ((mostA ownL).2 != 0)) || (!((listA ownL bothL).1.lo == (rangeF (-1) 2).lo && (listA ownL bothL).1.hi == (rangeF (-1) 2).hi))) || ((levelA strictL ([(placeL 0 0)])).1 != 1)) || ((tiltsA ownL ([(placeL 0 0), (placeL 1 0)])).1 != 1)) || (!(sameL (stowA strictL ([0, 1])).1 (bif (true && ((((((((((listA ownL bothL).2 != 0) || ((levelA strictL ([(placeL 0 0)])).2 != 0)) || ((tiltsA ownL ([(placeL 0 0), (placeL 1 0)])).2 != 0)) || ((stowA strictL ([0, 1])).2 != 0)) || ((mostA ownL).2 != 0)) || (!((listA ownL bothL).1.lo == (rangeF (-1) 2).lo && (listA ownL bothL).1.hi == (rangeF (-1) 2).hi))) || ((levelA strictL ([(placeL 0 0)])).1 != 1)) || ((tiltsA ownL ([(placeL 0 0), (placeL 1 0)])).1 != 1)) == false)) then [(placeL 1 0), (placeL 0 2)] else [])))) == false)) then [0, 1, 2] else [])))) [((((((((((listA ownL bothL).2 != 0) || ((levelA strictL ([(placeL 0 0)])).2 != 0)) || ((tiltsA ownL ([(placeL 0 0), (placeL 1 0)])).2 != 0)) || ((stowA strictL ([0, 1])).2 != 0)) || ((mostA ownL).2 != 0)) || (!((listA ownL bothL).1.lo == (rangeF (-1) 2).lo && (listA ownL bothL).1.hi == (rangeF (-1) 2).hi))) || ((levelA strictL ([(placeL 0 0)])).1 != 1)) || ((tiltsA ownL ([(placeL 0 0), (placeL 1 0)])).1 != 1)) || (!(sameL (stowA strictL ([0, 1])).1 (bif (true && ((((((((((listA ownL bothL).2 != 0) || ((levelA strictL ([(placeL 0 0)])).2 != 0)) || ((tiltsA ownL ([(placeL 0 0), (placeL 1 0)])).2 != 0)) || ((stowA strictL ([0, 1])).2 != 0)) || ((mostA ownL).2 != 0)) || (!((listA ownL bothL).1.lo == (rangeF (-1) 2).lo && (listA ownL bothL).1.hi == (rangeF (-1) 2).hi))) || ((levelA strictL ([(placeL 0 0)])).1 != 1)) || ((tiltsA ownL ([(placeL 0 0), (placeL 1 0)])).1 != 1)) == false)) then [(placeL 1 0), (placeL 0 2)] else []))), false)] (by kernel_rfl) (goes_of (by kernel_rfl)) (by kernel_rfl) (by kernel_rfl) (fun _ nV w h => alikeF_calls (nV 13) (nV 15) (mostA ownL).1 (bif (true && (((((((((((listA ownL bothL).2 != 0) || ((levelA strictL ([(placeL 0 0)])).2 != 0)) || ((tiltsA ownL ([(placeL 0 0), (placeL 1 0)])).2 != 0)) || ((stowA strictL ([0, 1])).2 != 0)) || ((mostA ownL).2 != 0)) || (!((listA ownL bothL).1.lo == (rangeF (-1) 2).lo && (listA ownL bothL).1.hi == (rangeF (-1) 2).hi))) || ((levelA strictL ([(placeL 0 0)])).1 != 1)) || ((tiltsA ownL ([(placeL 0 0), (placeL 1 0)])).1 != 1)) || (!(sameL (stowA strictL ([0, 1])).1 (bif (true && ((((((((((listA ownL bothL).2 != 0) || ((levelA strictL ([(placeL 0 0)])).2 != 0)) || ((tiltsA ownL ([(placeL 0 0), (placeL 1 0)])).2 != 0)) || ((stowA strictL ([0, 1])).2 != 0)) || ((mostA ownL).2 != 0)) || (!((listA ownL bothL).1.lo == (rangeF (-1) 2).lo && (listA ownL bothL).1.hi == (rangeF (-1) 2).hi))) || ((levelA strictL ([(placeL 0 0)])).1 != 1)) || ((tiltsA ownL ([(placeL 0 0), (placeL 1 0)])).1 != 1)) == false)) then [(placeL 1 0), (placeL 0 2)] else [])))) == false)) then [0, 1, 2] else []) w (h.reads (id := 13) (kd := .ro) (e := 3) (by kernel_rfl)) (h.reads (id := 15) (kd := .own) (e := 3) (by kernel_rfl)) ) ?_
  refine WPO_end (by kernel_rfl) ⟨rfl, (hfz.fnds [13, 12, 11, 10, 9, 8, 7, 6, 5, 4, 3, 2, 0, 1] (by kernel_rfl) ⟨by kernel_rfl, by kernel_rfl, by kernel_rfl, by kernel_rfl, by kernel_rfl, by kernel_rfl, by kernel_rfl, by kernel_rfl, by kernel_rfl, by kernel_rfl, by kernel_rfl, by kernel_rfl, by kernel_rfl, by kernel_rfl, trivial⟩ (by kernel_rfl)), ?_⟩
  refine H_run tt_ok [43, 44] (f' := 0) (by kernel_rfl) (by kernel_rfl) (by kernel_rfl) ?_
  refine H_done (by kernel_rfl) ?_
  refine WP_cond (((((((((((listA ownL bothL).2 != 0) || ((levelA strictL ([(placeL 0 0)])).2 != 0)) || ((tiltsA ownL ([(placeL 0 0), (placeL 1 0)])).2 != 0)) || ((stowA strictL ([0, 1])).2 != 0)) || ((mostA ownL).2 != 0)) || (!((listA ownL bothL).1.lo == (rangeF (-1) 2).lo && (listA ownL bothL).1.hi == (rangeF (-1) 2).hi))) || ((levelA strictL ([(placeL 0 0)])).1 != 1)) || ((tiltsA ownL ([(placeL 0 0), (placeL 1 0)])).1 != 1)) || (!(sameL (stowA strictL ([0, 1])).1 (bif (true && ((((((((((listA ownL bothL).2 != 0) || ((levelA strictL ([(placeL 0 0)])).2 != 0)) || ((tiltsA ownL ([(placeL 0 0), (placeL 1 0)])).2 != 0)) || ((stowA strictL ([0, 1])).2 != 0)) || ((mostA ownL).2 != 0)) || (!((listA ownL bothL).1.lo == (rangeF (-1) 2).lo && (listA ownL bothL).1.hi == (rangeF (-1) 2).hi))) || ((levelA strictL ([(placeL 0 0)])).1 != 1)) || ((tiltsA ownL ([(placeL 0 0), (placeL 1 0)])).1 != 1)) == false)) then [(placeL 1 0), (placeL 0 2)] else [])))) || (!(alikeF (mostA ownL).1 (bif (true && (((((((((((listA ownL bothL).2 != 0) || ((levelA strictL ([(placeL 0 0)])).2 != 0)) || ((tiltsA ownL ([(placeL 0 0), (placeL 1 0)])).2 != 0)) || ((stowA strictL ([0, 1])).2 != 0)) || ((mostA ownL).2 != 0)) || (!((listA ownL bothL).1.lo == (rangeF (-1) 2).lo && (listA ownL bothL).1.hi == (rangeF (-1) 2).hi))) || ((levelA strictL ([(placeL 0 0)])).1 != 1)) || ((tiltsA ownL ([(placeL 0 0), (placeL 1 0)])).1 != 1)) || (!(sameL (stowA strictL ([0, 1])).1 (bif (true && ((((((((((listA ownL bothL).2 != 0) || ((levelA strictL ([(placeL 0 0)])).2 != 0)) || ((tiltsA ownL ([(placeL 0 0), (placeL 1 0)])).2 != 0)) || ((stowA strictL ([0, 1])).2 != 0)) || ((mostA ownL).2 != 0)) || (!((listA ownL bothL).1.lo == (rangeF (-1) 2).lo && (listA ownL bothL).1.hi == (rangeF (-1) 2).hi))) || ((levelA strictL ([(placeL 0 0)])).1 != 1)) || ((tiltsA ownL ([(placeL 0 0), (placeL 1 0)])).1 != 1)) == false)) then [(placeL 1 0), (placeL 0 2)] else [])))) == false)) then [0, 1, 2] else [])))) (by kernel_rfl) (fun hc2 => ?_) (fun hc2 => ?_)
  · have hc2' := hc2; try simp only [Bool.and_eq_true, Bool.or_eq_true, Bool.and_eq_false_iff, Bool.or_eq_false_iff, Bool.not_eq_true', Bool.not_eq_false', decide_eq_true_eq, decide_eq_false_iff_not, beq_iff_eq, beq_eq_false_iff_ne, bne_iff_ne, bne_eq_false_iff_eq, ne_eq] at hc2'
    refine WP_seq (WP_region (WPO_all tt_ok (by kernel_rfl) ?_))
    refine WP_ret ?_
    exact ⟨.s (.bool false), by kernel_rfl, fun nV w' h => ⟨by rw [show stowedL = false from by unfold stowedL; simp only [hc2, cond_true, cond_false]]; rfl, h.bel⟩⟩
  have hc2' := hc2; try simp only [Bool.and_eq_true, Bool.or_eq_true, Bool.and_eq_false_iff, Bool.or_eq_false_iff, Bool.not_eq_true', Bool.not_eq_false', decide_eq_true_eq, decide_eq_false_iff_not, beq_iff_eq, beq_eq_false_iff_ne, bne_iff_ne, bne_eq_false_iff_eq, ne_eq] at hc2'
  refine WP_skip ?_
  refine WP_seq (WP_region (CALLO 71 [] (.g [.ref 16, .int .i64 lightL.rule, .int .i64 lightL.most]) 61 3 lightL.loads encLoad zLoad 16 (by kernel_rfl) (by kernel_rfl) (goes_of (by kernel_rfl)) (by kernel_rfl) (by kernel_rfl) (fun _ => rfl) ((fun nV w h => lightL_calls   w  )) ?_))
  refine CALLR 46 [.g [.ref 16, .int .i64 lightL.rule, .int .i64 lightL.most]] (.t [(false, [.ref 17]), (false, [.int .i64 (fewestA lightL).2])]) 3 1 (fewestA lightL).1 encI 0 17 (by kernel_rfl) (by kernel_rfl) (goes_of (by kernel_rfl)) (by kernel_rfl) (by kernel_rfl) (by decide) (fun _ => rfl) (fun nV w h => (fewestA_calls (nV 16) lightL w (h.reads (id := 16) (kd := .own) (e := 61) (by kernel_rfl)) (h.ents (0, .pf NobodyAt (· = 1)) (fnd_mem (by kernel_rfl))).1 (h.ents (1, .pf LanesAt (· = 0)) (fnd_mem (by kernel_rfl))).1 ).mono fun e w' h1 => weak_fresh h1) ?_
  refine WPO_all tt_ok (by kernel_rfl) ?_
  refine WP_seq (WP_region (CALLO 69 [] (.g [.ref 18, .int .i64 wideL.rule, .int .i64 wideL.most]) 61 3 wideL.loads encLoad zLoad 18 (by kernel_rfl) (by kernel_rfl) (goes_of (by kernel_rfl)) (by kernel_rfl) (by kernel_rfl) (fun _ => rfl) ((fun nV w h => wideL_calls   w  )) ?_))
  refine CALLR 47 [.g [.ref 18, .int .i64 wideL.rule, .int .i64 wideL.most]] (.t [(false, [.ref 19]), (false, [.int .i64 (neverA wideL).2])]) 3 1 (neverA wideL).1 encI 0 19 (by kernel_rfl) (by kernel_rfl) (goes_of (by kernel_rfl)) (by kernel_rfl) (by kernel_rfl) (by decide) (fun _ => rfl) (fun nV w h => (neverA_calls (nV 18) wideL w (h.reads (id := 18) (kd := .own) (e := 61) (by kernel_rfl)) (h.ents (0, .pf NobodyAt (· = 1)) (fnd_mem (by kernel_rfl))).1 (h.ents (1, .pf LanesAt (· = 0)) (fnd_mem (by kernel_rfl))).1 ).mono fun e w' h1 => weak_fresh h1) ?_
  refine WPO_all tt_ok (by kernel_rfl) ?_
  refine WP_seq (WP_region (CALLO 63 [] (.g [.ref 20, .int .i64 ownL.rule, .int .i64 ownL.most]) 61 3 ownL.loads encLoad zLoad 20 (by kernel_rfl) (by kernel_rfl) (goes_of (by kernel_rfl)) (by kernel_rfl) (by kernel_rfl) (fun _ => rfl) ((fun nV w h => ownL_calls   w  )) ?_))
  refine CALL 48 [.g [.ref 20, .int .i64 ownL.rule, .int .i64 ownL.most]] (.t [(false, [.int .i64 (weighA ownL).1]), (false, [.int .i64 (weighA ownL).2])]) [] (by kernel_rfl) (goes_of (by kernel_rfl)) (by kernel_rfl) (by kernel_rfl) (fun _ nV w h => weighA_calls (nV 20) ownL w (h.reads (id := 20) (kd := .own) (e := 61) (by kernel_rfl)) (h.ents (0, .pf NobodyAt (· = 1)) (fnd_mem (by kernel_rfl))).1 (h.ents (1, .pf LanesAt (· = 0)) (fnd_mem (by kernel_rfl))).1 ) ?_
  refine WPO_all tt_ok (by kernel_rfl) ?_
  refine WP_seq (WP_region (WPO_run tt_ok 12 (by kernel_rfl) ?_))
  refine LITG tt_ok [(116, true)] (true && (((((fewestA lightL).2 == 0) && ((neverA wideL).2 == 0)) && ((weighA ownL).2 == 0)) == true)) 3 4 1 [.int .i64 0, .int .i64 0, .int .i64 1, .int .i64 1] [0, 0, 1, 1] encI 0 (by kernel_rfl) (by kernel_rfl) rfl (fun _ => rfl) (fun n => rfl) (by kernel_rfl) ?_
  refine CALL 24 [.s (.ref 17), .s (.ref 21)] (.s (.bool (alikeF (fewestA lightL).1 (bif (true && (((((fewestA lightL).2 == 0) && ((neverA wideL).2 == 0)) && ((weighA ownL).2 == 0)) == true)) then [0, 0, 1, 1] else [])))) [((((fewestA lightL).2 == 0) && ((neverA wideL).2 == 0)) && ((weighA ownL).2 == 0), true)] (by kernel_rfl) (goes_of (by kernel_rfl)) (by kernel_rfl) (by kernel_rfl) (fun _ nV w h => alikeF_calls (nV 17) (nV 21) (fewestA lightL).1 (bif (true && (((((fewestA lightL).2 == 0) && ((neverA wideL).2 == 0)) && ((weighA ownL).2 == 0)) == true)) then [0, 0, 1, 1] else []) w (h.reads (id := 17) (kd := .ro) (e := 3) (by kernel_rfl)) (h.reads (id := 21) (kd := .own) (e := 3) (by kernel_rfl)) ) ?_
  refine WPO_run tt_ok 3 (by kernel_rfl) ?_
  refine LITG tt_ok [(121, true)] (true && ((((((fewestA lightL).2 == 0) && ((neverA wideL).2 == 0)) && ((weighA ownL).2 == 0)) && (alikeF (fewestA lightL).1 (bif (true && (((((fewestA lightL).2 == 0) && ((neverA wideL).2 == 0)) && ((weighA ownL).2 == 0)) == true)) then [0, 0, 1, 1] else []))) == true)) 3 1 1 [.int .i64 4] [4] encI 0 (by kernel_rfl) (by kernel_rfl) rfl (fun _ => rfl) (fun n => rfl) (by kernel_rfl) ?_
  refine CALL 24 [.s (.ref 19), .s (.ref 22)] (.s (.bool (alikeF (neverA wideL).1 (bif (true && ((((((fewestA lightL).2 == 0) && ((neverA wideL).2 == 0)) && ((weighA ownL).2 == 0)) && (alikeF (fewestA lightL).1 (bif (true && (((((fewestA lightL).2 == 0) && ((neverA wideL).2 == 0)) && ((weighA ownL).2 == 0)) == true)) then [0, 0, 1, 1] else []))) == true)) then [4] else [])))) [(((((fewestA lightL).2 == 0) && ((neverA wideL).2 == 0)) && ((weighA ownL).2 == 0)) && (alikeF (fewestA lightL).1 (bif (true && (((((fewestA lightL).2 == 0) && ((neverA wideL).2 == 0)) && ((weighA ownL).2 == 0)) == true)) then [0, 0, 1, 1] else [])), true)] (by kernel_rfl) (goes_of (by kernel_rfl)) (by kernel_rfl) (by kernel_rfl) (fun _ nV w h => alikeF_calls (nV 19) (nV 22) (neverA wideL).1 (bif (true && ((((((fewestA lightL).2 == 0) && ((neverA wideL).2 == 0)) && ((weighA ownL).2 == 0)) && (alikeF (fewestA lightL).1 (bif (true && (((((fewestA lightL).2 == 0) && ((neverA wideL).2 == 0)) && ((weighA ownL).2 == 0)) == true)) then [0, 0, 1, 1] else []))) == true)) then [4] else []) w (h.reads (id := 19) (kd := .ro) (e := 3) (by kernel_rfl)) (h.reads (id := 22) (kd := .own) (e := 3) (by kernel_rfl)) ) ?_
  refine WPO_all tt_ok (by kernel_rfl) ?_
  refine WP_ret ?_
  exact ⟨.s (.bool (((((((fewestA lightL).2 == 0) && ((neverA wideL).2 == 0)) && ((weighA ownL).2 == 0)) && (alikeF (fewestA lightL).1 (bif (true && (((((fewestA lightL).2 == 0) && ((neverA wideL).2 == 0)) && ((weighA ownL).2 == 0)) == true)) then [0, 0, 1, 1] else []))) && (alikeF (neverA wideL).1 (bif (true && ((((((fewestA lightL).2 == 0) && ((neverA wideL).2 == 0)) && ((weighA ownL).2 == 0)) && (alikeF (fewestA lightL).1 (bif (true && (((((fewestA lightL).2 == 0) && ((neverA wideL).2 == 0)) && ((weighA ownL).2 == 0)) == true)) then [0, 0, 1, 1] else []))) == true)) then [4] else []))) && ((weighA ownL).1 == 0))), by kernel_rfl, fun nV w' h => ⟨by rw [show stowedL = (((((((fewestA lightL).2 == 0) && ((neverA wideL).2 == 0)) && ((weighA ownL).2 == 0)) && (alikeF (fewestA lightL).1 (bif (true && (((((fewestA lightL).2 == 0) && ((neverA wideL).2 == 0)) && ((weighA ownL).2 == 0)) == true)) then [0, 0, 1, 1] else []))) && (alikeF (neverA wideL).1 (bif (true && ((((((fewestA lightL).2 == 0) && ((neverA wideL).2 == 0)) && ((weighA ownL).2 == 0)) && (alikeF (fewestA lightL).1 (bif (true && (((((fewestA lightL).2 == 0) && ((neverA wideL).2 == 0)) && ((weighA ownL).2 == 0)) == true)) then [0, 0, 1, 1] else []))) == true)) then [4] else []))) && ((weighA ownL).1 == 0)) from by unfold stowedL; simp only [hc2, cond_true, cond_false]]; rfl, h.bel⟩⟩
theorem stowedL_true : stowedL = true := by kernel_rfl
end Go.Proofs.YthfnedbpmdkdjaaDoor.D
namespace Go.Proofs.YthfnedbpmdkdjaaDoor.D
open Go Go.RowKit Go.Proofs.YthfnedbpmdkdjaaDoor.Eng Go.Proofs.YthfnedbpmdkdjaaDoor.Cm
set_option linter.unusedVariables false
set_option linter.unusedSimpArgs false
set_option linter.unusedSectionVars false
def soundL_c1 (b : DBook) (k1 : Nat) : Bool → Bool := fun v1_1 => v1_1 && (decide ((k1 : Int) < (b.loads.length : Int)))
def soundL_b1 (b : DBook) (k1 : Nat) : Bool → Bd Bool Bool := fun v1_1 => .go ((validF (b.loads.getD k1 zLoad).w 1 60) && (insideF (b.loads.getD k1 zLoad).lanes 1 7))
def soundL (b : DBook) : Bool :=
  (match loopR (soundL_c1 b) (soundL_b1 b) b.loads.length 0 (((((checkD b) == 0) && (insideF (b.loads.length : Int) 1 5)) && (insideF b.rule 0 30)) && (insideF b.most 1 200)) with | .brk u1_0 => u1_0 | .ret r => r)
theorem soundL_calls (g0 : Value) (b : DBook) (w : World) (r0 : Reads w g0 3 b.loads encLoad zLoad)  : Calls Tryd.prog 26 #[.agg #[g0, iv b.rule, iv b.most]] w fun e w' => e = .returned (.bool (soundL b)) ∧ Below w.heap.size w w' := by
  refine calls_of_WP (cx := cx0 w (vn [g0]) 1) (n := vn [g0]) (vs := [.g [.ref 0, .int .i64 b.rule, .int .i64 b.most]]) (hp := [(0, .sl .ro 61 3 b.loads encLoad zLoad)]) (nx := 1) tt_ok Tryd.func26 rfl rfl rfl (by kernel_rfl) (HSat_args (vn_one (by simp [r0.one])) (Nat.le_refl _) ⟨⟨⟨fun _ => rfl, by decide, r0⟩, (Nat.le_of_ble_eq_true rfl)⟩, trivial⟩) (vsOk (by kernel_rfl)) ?_
  have hl0 := Reads.len r0
  refine WP_seq (WP_region (WPO_all tt_ok (by kernel_rfl) ?_))
  refine WP_seq (WP_region (WPO_run tt_ok 1 (by kernel_rfl) ?_))
  refine CALL 66 [.g [.ref 0, .int .i64 b.rule, .int .i64 b.most]] (.s (.int .i64 (checkD b))) [] (by kernel_rfl) (goes_of (by kernel_rfl)) (by kernel_rfl) (by kernel_rfl) (fun hG nV w h => checkD_calls (nV 0) b w (h.reads (id := 0) (kd := .ro) (e := 61) (by kernel_rfl)) ) ?_
  refine WPO_run tt_ok 5 (by kernel_rfl) ?_
  refine CALL 34 [.s (.int .i64 (b.loads.length : Int)), .s (.int .i64 1), .s (.int .i64 5)] (.s (.bool (insideF (b.loads.length : Int) 1 5))) [((checkD b) == 0, true)] (by kernel_rfl) (goes_of (by kernel_rfl)) (by kernel_rfl) (by kernel_rfl) (fun hG nV w h => insideF_calls  (b.loads.length : Int) 1 5 w  ) ?_
  refine WPO_run tt_ok 4 (by kernel_rfl) ?_
  refine CALL 34 [.s (.int .i64 b.rule), .s (.int .i64 0), .s (.int .i64 30)] (.s (.bool (insideF b.rule 0 30))) [(((checkD b) == 0) && (insideF (b.loads.length : Int) 1 5), true)] (by kernel_rfl) (goes_of (by kernel_rfl)) (by kernel_rfl) (by kernel_rfl) (fun hG nV w h => insideF_calls  b.rule 0 30 w  ) ?_
  refine WPO_run tt_ok 4 (by kernel_rfl) ?_
  refine CALL 34 [.s (.int .i64 b.most), .s (.int .i64 1), .s (.int .i64 200)] (.s (.bool (insideF b.most 1 200))) [((((checkD b) == 0) && (insideF (b.loads.length : Int) 1 5)) && (insideF b.rule 0 30), true)] (by kernel_rfl) (goes_of (by kernel_rfl)) (by kernel_rfl) (by kernel_rfl) (fun hG nV w h => insideF_calls  b.most 1 200 w  ) ?_
  refine WPO_all tt_ok (by kernel_rfl) ?_
  refine WP_seq (WP_seq (WP_region (WPO_all tt_ok (by kernel_rfl) ?_)))
  refine WP_loopA (ρ := Bool) (soundL_c1 b) (soundL_b1 b) b.loads.length (((((checkD b) == 0) && (insideF (b.loads.length : Int) 1 5)) && (insideF b.rule 0 30)) && (insideF b.most 1 200)) (fun k : Nat => (k : Int)) (fun (ci : Int) (zz : Bool) => ⟨51, [(4, [], .s (.int .i64 ci)), (3, [], .s (.bool zz)), (1, [], .s (.p 1 0))], [(1, .box 24 [.ref 0, .int .i64 b.rule, .int .i64 b.most]), (0, .sl .ro 61 3 b.loads encLoad zLoad)], 2, []⟩) (fun zz : Bool => ⟨51, [(3, [], .s (.bool zz))], [(1, .box 24 [.ref 0, .int .i64 b.rule, .int .i64 b.most]), (0, .sl .ro 61 3 b.loads encLoad zLoad)], 2, []⟩) (fun k zz => True) trivial ⟨0, rfl, Le_sel (ts := [4, 3, 1]) (ids := [1, 0]) (nx := 2) (by kernel_rfl)⟩ ?_ ?_
  · intro k1 v1_1 hn1 hp1 hi1 Q1 hq1 ho1
    refine WP_seq (WP_seq (WP_region (WPO_all tt_ok (by kernel_rfl) ?_)))
    refine WP_cond (v1_1 && (decide ((k1 : Int) < (b.loads.length : Int)))) (by kernel_rfl) (fun hc1 => ?_) (fun hc1 => ?_)
    rotate_left
    · refine WP_exit ?_
      show Q1 (.exit 0) _
      exact LA_exit hq1 v1_1 (loopR_end hi1 hc1) ⟨k1, hn1, hp1⟩ (Le_sel (ts := [3]) (ids := [1, 0]) (nx := 2) (by kernel_rfl))
    have hc1' := hc1; try simp only [Bool.and_eq_true, Bool.or_eq_true, Bool.and_eq_false_iff, Bool.or_eq_false_iff, Bool.not_eq_true', Bool.not_eq_false', decide_eq_true_eq, decide_eq_false_iff_not, beq_iff_eq, beq_eq_false_iff_ne, bne_iff_ne, bne_eq_false_iff_eq, ne_eq] at hc1'
    have hk1 : k1 < b.loads.length := by omega
    refine WP_skip ?_
    refine WP_seq (WP_block ?_)
    refine WP_region (WPO_run tt_ok 3 (by kernel_rfl) ?_)
    refine IX tt_ok (k1 : Int) b.loads.length [] (by kernel_rfl) (fun hG => ⟨by omega, by omega⟩) ?_
    refine WPO_run tt_ok 2 (by kernel_rfl) ?_
    refine CALL 83 [.g [.int .i64 (b.loads.getD k1 zLoad).w.lo, .int .i64 (b.loads.getD k1 zLoad).w.hi], .s (.int .i64 1), .s (.int .i64 60)] (.s (.bool (validF (b.loads.getD k1 zLoad).w 1 60))) [] (by kernel_rfl) (goes_of (by kernel_rfl)) (by kernel_rfl) (by kernel_rfl) (fun hG nV w h => validF_calls  (b.loads.getD k1 zLoad).w 1 60 w  ) ?_
    refine WPO_run tt_ok 4 (by kernel_rfl) ?_
    refine IX tt_ok (k1 : Int) b.loads.length [((validF (b.loads.getD k1 zLoad).w 1 60), true)] (by kernel_rfl) (fun hG => (by (try simp only [AllEq, and_true, Bool.and_eq_true, Bool.or_eq_true, Bool.not_eq_true', decide_eq_true_eq, decide_eq_false_iff_not] at hG); constructor <;> omega)) ?_
    refine WPO_run tt_ok 2 (by kernel_rfl) ?_
    refine CALL 34 [.s (.int .i64 (b.loads.getD k1 zLoad).lanes), .s (.int .i64 1), .s (.int .i64 7)] (.s (.bool (insideF (b.loads.getD k1 zLoad).lanes 1 7))) [((validF (b.loads.getD k1 zLoad).w 1 60), true)] (by kernel_rfl) (goes_of (by kernel_rfl)) (by kernel_rfl) (by kernel_rfl) (fun hG nV w h => insideF_calls  (b.loads.getD k1 zLoad).lanes 1 7 w  ) ?_
    refine WPO_all tt_ok (by kernel_rfl) ?_
    refine WP_region (WPO_all tt_ok (by kernel_rfl) ?_)
    show Q1 .normal _
    exact LA_go hq1 (ci := IntKind.i64.wrap ((k1 : Int) + 1)) ((validF (b.loads.getD k1 zLoad).w 1 60) && (insideF (b.loads.getD k1 zLoad).lanes 1 7)) hk1 (by show _ = ((k1 + 1 : Nat) : Int); rw [wrapI (by omega) (by omega)]; omega) (loopR_go hi1 hk1 hc1 (rfl)) trivial (Le_sel (ts := [4, 3, 1]) (ids := [1, 0]) (nx := 2) (by kernel_rfl))
  intro u1_0 hR1 hP1 s' hl
  refine WP_le hl ?_
  clear hl s'
  refine WP_seq (WP_region (WPO_all tt_ok (by kernel_rfl) ?_))
  refine WP_ret ?_
  exact ⟨.s (.bool u1_0), by kernel_rfl, fun nV w' h => ⟨by rw [show soundL b = u1_0 from by unfold soundL; simp only [hR1, cond_true, cond_false]]; rfl, h.bel⟩⟩
def weighedL (b : DBook) (at_ : Int) (weight : Int) : DBook :=
  (⟨(([] : List Load) ++ b.loads).set at_.toNat (⟨(pointF weight), ((([] : List Load) ++ b.loads).getD at_.toNat zLoad).lanes⟩ : Load), b.rule, b.most⟩ : DBook)
theorem weighedL_calls (g0 : Value) (b : DBook) (at_ : Int) (weight : Int) (w : World) (r0 : Reads w g0 3 b.loads encLoad zLoad) (hat : 0 ≤ at_ ∧ at_ < b.loads.length) (hb5 : b.loads.length ≤ 5) : Calls Tryd.prog 59 #[.agg #[g0, iv b.rule, iv b.most], iv at_, iv weight] w fun e w' => ∃ v0, e = .returned (.agg #[v0, iv (weighedL b at_ weight).rule, iv (weighedL b at_ weight).most]) ∧ Below w.heap.size w w' ∧ w'.ownsRow w.heap.size 61 3 v0 (weighedL b at_ weight).loads.length (flat (weighedL b at_ weight).loads encLoad) := by
  refine calls_of_WP (cx := cx0 w (vn [g0]) 1) (n := vn [g0]) (vs := [.g [.ref 0, .int .i64 b.rule, .int .i64 b.most], .s (.int .i64 at_), .s (.int .i64 weight)]) (hp := [(0, .sl .ro 61 3 b.loads encLoad zLoad)]) (nx := 1) tt_ok Tryd.func59 rfl rfl rfl (by kernel_rfl) (HSat_args (vn_one (by simp [r0.one])) (Nat.le_refl _) ⟨⟨⟨fun _ => rfl, by decide, r0⟩, (Nat.le_of_ble_eq_true rfl)⟩, trivial⟩) (vsOk (by kernel_rfl)) ?_
  have hl0 := Reads.len r0
  have hla : (([] : List Load) ++ b.loads).length = b.loads.length := rfl
  refine WP_seq (WP_region (WPO_all tt_ok (by kernel_rfl) ?_))
  refine WP_seq (WP_region (WPO_all tt_ok (by kernel_rfl) ?_))
  refine WP_seq (WP_region (LIT tt_ok (by kernel_rfl) ?_))
  refine LITSL 4 61 0 3 [] ([] : List Load) encLoad zLoad (by kernel_rfl) rfl (fun _ => rfl) (fun n => rfl) ?_
  refine WPO_run tt_ok 2 (by kernel_rfl) ?_
  refine APPS tt_ok (.s (.ref 4)) (.s (.ref 0)) 22 61 (some 12) 3 ([] : List Load) b.loads encLoad zLoad (by kernel_rfl) (by kernel_rfl) (by kernel_rfl) (by kernel_rfl) (.inr ⟨4, rfl, (by kernel_rfl)⟩) ⟨0, .ro, rfl, (by kernel_rfl)⟩ (fun y => rfl) (fun y => List.all_eq_true.1 rfl) (fun i hi => (by have hby : (tyL tt 61).map (·.bytes) = some 24 := (by kernel_rfl); rw [hi] at hby; simp only [Option.map_some, Option.some.injEq] at hby; rw [hby]; simp only [List.length_append, List.length_cons, List.length_nil]; omega)) ?_
  refine WPO_all tt_ok (by kernel_rfl) ?_
  refine WP_seq (WP_drawH [5] (by kernel_rfl) (by kernel_rfl) ?_)
  refine H_run tt_ok [0, 1, 2, 3] (f' := 4) (by kernel_rfl) (by kernel_rfl) (by kernel_rfl) ?_
  refine H_step 4 (by kernel_rfl) (by kernel_rfl) (fun hfz cx' hx1 hx2 => ?_)
  refine CALL 65 [.s (.int .i64 weight)] (.g [.int .i64 (pointF weight).lo, .int .i64 (pointF weight).hi]) [] (by kernel_rfl) (goes_of (by kernel_rfl)) (by kernel_rfl) (by kernel_rfl) (fun hG nV w h => pointF_calls  weight w  ) ?_
  refine WPO_end (by kernel_rfl) ⟨rfl, (hfz.fnds [3, 2, 1, 0] (by kernel_rfl) ⟨by kernel_rfl, by kernel_rfl, by kernel_rfl, by kernel_rfl, trivial⟩ (by kernel_rfl)), ?_⟩
  refine H_IX tt_ok 5 at_ (([] : List Load) ++ b.loads).length [] (by kernel_rfl) (fun hG => ⟨by omega, by omega⟩) (by kernel_rfl) (by kernel_rfl) ?_
  refine H_step 6 (by kernel_rfl) (by kernel_rfl) (fun hfz cx' hx1 hx2 => ?_)
  refine WPO_all tt_ok (by kernel_rfl) ?_
  refine ⟨rfl, (hfz.fnds [3, 2, 1, 0] (by kernel_rfl) ⟨by kernel_rfl, by kernel_rfl, by kernel_rfl, by kernel_rfl, trivial⟩ (by kernel_rfl)), ?_⟩
  refine H_step 7 (by kernel_rfl) (by kernel_rfl) (fun hfz cx' hx1 hx2 => ?_)
  refine EST tt_ok 5 at_ 3 0 61 43 (([] : List Load) ++ b.loads) encLoad zLoad (⟨(pointF weight), ((([] : List Load) ++ b.loads).getD at_.toNat zLoad).lanes⟩ : Load) (.g [.int .i64 (pointF weight).lo, .int .i64 (pointF weight).hi]) (by kernel_rfl) (by kernel_rfl) (by kernel_rfl) (by kernel_rfl) ⟨by omega, by omega⟩ (fun n => rfl) ?_
  refine WPO_end (by kernel_rfl) ⟨rfl, (hfz.fnds [3, 2, 1, 0] (by kernel_rfl) ⟨by kernel_rfl, by kernel_rfl, by kernel_rfl, by kernel_rfl, trivial⟩ (by kernel_rfl)), ?_⟩
  refine H_done (by kernel_rfl) ?_
  refine WP_seq (WP_region (WPO_all tt_ok (by kernel_rfl) ?_))
  refine WP_ret ?_
  exact ⟨.g [.ref 5, .int .i64 b.rule, .int .i64 b.most], by kernel_rfl, fun nV w' h => ⟨nV 5, by rw [show weighedL b at_ weight = (⟨(([] : List Load) ++ b.loads).set at_.toNat (⟨(pointF weight), ((([] : List Load) ++ b.loads).getD at_.toNat zLoad).lanes⟩ : Load), b.rule, b.most⟩ : DBook) from rfl]; rfl, h.bel, by rw [show weighedL b at_ weight = (⟨(([] : List Load) ++ b.loads).set at_.toNat (⟨(pointF weight), ((([] : List Load) ++ b.loads).getD at_.toNat zLoad).lanes⟩ : Load), b.rule, b.most⟩ : DBook) from rfl]; exact own_of (z := zLoad) h (by kernel_rfl)⟩⟩
end Go.Proofs.YthfnedbpmdkdjaaDoor.D
namespace Go.Proofs.YthfnedbpmdkdjaaDoor.D
open Go Go.RowKit Go.Proofs.YthfnedbpmdkdjaaDoor.Eng Go.Proofs.YthfnedbpmdkdjaaDoor.Cm
set_option linter.unusedVariables false
set_option linter.unusedSimpArgs false
set_option linter.unusedSectionVars false
def worstL_c1 (b : DBook) (at_ : Int) (k1 : Nat) : Int → Bool := fun v1_1 => decide (((b.loads.getD at_.toNat zLoad).w.lo + (k1 : Int)) ≤ (b.loads.getD at_.toNat zLoad).w.hi)
def worstL_b1 (b : DBook) (at_ : Int) (k1 : Nat) : Int → Bd Int Int := fun v1_1 => (bif (mostA (weighedL b at_ ((b.loads.getD at_.toNat zLoad).w.lo + (k1 : Int)))).2 != 0 then .ret (-1) else .go (mn v1_1 ((mostA (weighedL b at_ ((b.loads.getD at_.toNat zLoad).w.lo + (k1 : Int)))).1.length : Int)))
def worstL (b : DBook) (at_ : Int) : Int :=
  (match loopR (worstL_c1 b at_) (worstL_b1 b at_) ((b.loads.getD at_.toNat zLoad).w.hi - (b.loads.getD at_.toNat zLoad).w.lo + 1 : Int).toNat 0 (b.loads.length : Int) with | .brk u1_0 => u1_0 | .ret r => r)
theorem worstL_calls (g0 : Value) (b : DBook) (at_ : Int) (w : World) (r0 : Reads w g0 3 b.loads encLoad zLoad) (hnb : NobodyAt w) (hla : LanesAt w) (hb5 : b.loads.length ≤ 5) (hv : ValidD b) (hat : 0 ≤ at_ ∧ at_ < b.loads.length) : Calls Tryd.prog 62 #[.agg #[g0, iv b.rule, iv b.most], iv at_] w fun e w' => e = .returned (iv (worstL b at_)) ∧ Below w.heap.size w w' := by
  refine calls_of_WP (cx := cx0 w (vn [g0]) 1) (n := vn [g0]) (vs := [.g [.ref 0, .int .i64 b.rule, .int .i64 b.most], .s (.int .i64 at_)]) (hp := [(0, .sl .ro 61 3 b.loads encLoad zLoad), (1, .pf NobodyAt (· = 1)), (2, .pf LanesAt (· = 0))]) (nx := 3) tt_ok Tryd.func62 rfl rfl rfl (by kernel_rfl) (HSat_args (vn_one (by simp [r0.one])) (by decide) ⟨⟨⟨fun _ => rfl, by decide, r0⟩, (Nat.le_of_ble_eq_true rfl)⟩, ⟨⟨hnb, fun w1 w2 h1 hw => (hw 1 rfl).trans h1, fun g hg => by cases hg; exact (Array.getElem?_eq_some_iff.1 hnb).1⟩, (Nat.le_of_ble_eq_true rfl)⟩, ⟨⟨hla, fun w1 w2 h1 hw => (hw 0 rfl).trans h1, fun g hg => by cases hg; exact (Array.getElem?_eq_some_iff.1 hla).1⟩, (Nat.le_of_ble_eq_true rfl)⟩, trivial⟩) (vsOk (by kernel_rfl)) ?_
  have hl0 := Reads.len r0
  have hld := (hv.load (k := at_.toNat) (by omega)).1
  refine WP_seq (WP_region (WPO_all tt_ok (by kernel_rfl) ?_))
  refine WP_seq (WP_region (WPO_all tt_ok (by kernel_rfl) ?_))
  refine WP_seq (WP_seq (WP_region (WPO_run tt_ok 3 (by kernel_rfl) ?_)))
  refine IX tt_ok at_ b.loads.length [] (by kernel_rfl) (fun hG => ⟨by omega, by omega⟩) ?_
  refine WPO_all tt_ok (by kernel_rfl) ?_
  refine WP_loopA (ρ := Int) (worstL_c1 b at_) (worstL_b1 b at_) ((b.loads.getD at_.toNat zLoad).w.hi - (b.loads.getD at_.toNat zLoad).w.lo + 1 : Int).toNat (b.loads.length : Int) (fun k : Nat => ((b.loads.getD at_.toNat zLoad).w.lo + (k : Int))) (fun (ci : Int) (zz : Int) => ⟨45, [(6, [], .s (.int .i64 ci)), (5, [], .s (.int .i64 zz)), (2, [], .s (.p 3 0)), (1, [], .s (.int .i64 at_))], [(3, .box 24 [.ref 0, .int .i64 b.rule, .int .i64 b.most]), (0, .sl .ro 61 3 b.loads encLoad zLoad), (1, .pf NobodyAt (· = 1)), (2, .pf LanesAt (· = 0))], 4, []⟩) (fun zz : Int => ⟨45, [(5, [], .s (.int .i64 zz))], [(3, .box 24 [.ref 0, .int .i64 b.rule, .int .i64 b.most]), (0, .sl .ro 61 3 b.loads encLoad zLoad), (1, .pf NobodyAt (· = 1)), (2, .pf LanesAt (· = 0))], 4, []⟩) (fun k zz => True) trivial ⟨(b.loads.getD at_.toNat zLoad).w.lo, by simp, Le_sel (ts := [6, 5, 2, 1]) (ids := [3, 0, 1, 2]) (nx := 4) (by kernel_rfl)⟩ ?_ ?_
  · intro k1 v1_1 hn1 hp1 hi1 Q1 hq1 ho1
    refine WP_seq (WP_seq (WP_region (WPO_run tt_ok 4 (by kernel_rfl) ?_)))
    refine IX tt_ok at_ b.loads.length [] (by kernel_rfl) (fun hG => ⟨by omega, by omega⟩) ?_
    refine WPO_all tt_ok (by kernel_rfl) ?_
    refine WP_cond (decide (((b.loads.getD at_.toNat zLoad).w.lo + (k1 : Int)) ≤ (b.loads.getD at_.toNat zLoad).w.hi)) (by kernel_rfl) (fun hc1 => ?_) (fun hc1 => ?_)
    rotate_left
    · refine WP_exit ?_
      show Q1 (.exit 0) _
      exact LA_exit hq1 v1_1 (loopR_end hi1 hc1) ⟨k1, hn1, hp1⟩ (Le_sel (ts := [5]) (ids := [3, 0, 1, 2]) (nx := 4) (by kernel_rfl))
    have hc1' := of_decide_eq_true hc1
    have hk1 : k1 < ((b.loads.getD at_.toNat zLoad).w.hi - (b.loads.getD at_.toNat zLoad).w.lo + 1 : Int).toNat := by omega
    refine WP_skip ?_
    refine WP_seq (WP_block ?_)
    refine WP_seq (WP_region (WPO_run tt_ok 3 (by kernel_rfl) ?_))
    refine CALLO 59 [.g [.ref 0, .int .i64 b.rule, .int .i64 b.most], .s (.int .i64 at_), .s (.int .i64 ((b.loads.getD at_.toNat zLoad).w.lo + (k1 : Int)))] (.g [.ref 4, .int .i64 (weighedL b at_ ((b.loads.getD at_.toNat zLoad).w.lo + (k1 : Int))).rule, .int .i64 (weighedL b at_ ((b.loads.getD at_.toNat zLoad).w.lo + (k1 : Int))).most]) 61 3 (weighedL b at_ ((b.loads.getD at_.toNat zLoad).w.lo + (k1 : Int))).loads encLoad zLoad 4 (by kernel_rfl) (by kernel_rfl) (goes_of (by kernel_rfl)) (by kernel_rfl) (by kernel_rfl) (fun _ => rfl) ((fun nV w h => weighedL_calls (nV 0) b at_ ((b.loads.getD at_.toNat zLoad).w.lo + (k1 : Int)) w (h.reads (id := 0) (kd := .ro) (e := 61) (by kernel_rfl)) (by first | assumption | omega) (by first | assumption | omega))) ?_
    refine CALLR 45 [.g [.ref 4, .int .i64 (weighedL b at_ ((b.loads.getD at_.toNat zLoad).w.lo + (k1 : Int))).rule, .int .i64 (weighedL b at_ ((b.loads.getD at_.toNat zLoad).w.lo + (k1 : Int))).most]] (.t [(false, [.ref 5]), (false, [.int .i64 (mostA (weighedL b at_ ((b.loads.getD at_.toNat zLoad).w.lo + (k1 : Int)))).2])]) 3 1 (mostA (weighedL b at_ ((b.loads.getD at_.toNat zLoad).w.lo + (k1 : Int)))).1 encI 0 5 (by kernel_rfl) (by kernel_rfl) (goes_of (by kernel_rfl)) (by kernel_rfl) (by kernel_rfl) (by decide) (fun _ => rfl) (fun nV w h => (mostA_calls (nV 4) (weighedL b at_ ((b.loads.getD at_.toNat zLoad).w.lo + (k1 : Int))) w (h.reads (id := 4) (kd := .own) (e := 61) (by kernel_rfl)) (h.ents (1, .pf NobodyAt (· = 1)) (fnd_mem (by kernel_rfl))).1 (h.ents (2, .pf LanesAt (· = 0)) (fnd_mem (by kernel_rfl))).1 ).mono fun e w' h1 => weak_fresh h1) ?_
    refine WPO_all tt_ok (by kernel_rfl) ?_
    refine WP_seq (WP_seq (WP_region (WPO_all tt_ok (by kernel_rfl) ?_)))
    refine WP_cond ((mostA (weighedL b at_ ((b.loads.getD at_.toNat zLoad).w.lo + (k1 : Int)))).2 != 0) (by kernel_rfl) (fun hc3 => ?_) (fun hc3 => ?_)
    · have hc3' := hc3; try simp only [Bool.and_eq_true, Bool.or_eq_true, Bool.and_eq_false_iff, Bool.or_eq_false_iff, Bool.not_eq_true', Bool.not_eq_false', decide_eq_true_eq, decide_eq_false_iff_not, beq_iff_eq, beq_eq_false_iff_ne, bne_iff_ne, bne_eq_false_iff_eq, ne_eq] at hc3'
      refine WP_seq (WP_region (WPO_all tt_ok (by kernel_rfl) ?_))
      refine WP_ret ?_
      show Q1 .ret _
      refine LA_ret hq1 ?_
      have he4 := loopR_ret (r := -1) hi1 hk1 hc1 (by unfold worstL_b1; simp only [hc3, cond_true, cond_false])
      exact ⟨.s (.int .i64 (-1)), by kernel_rfl, fun nV w' h => ⟨by rw [show worstL b at_ = (-1) from by unfold worstL; simp only [he4, cond_true, cond_false]]; rfl, h.bel⟩⟩
    have hc3' := hc3; try simp only [Bool.and_eq_true, Bool.or_eq_true, Bool.and_eq_false_iff, Bool.or_eq_false_iff, Bool.not_eq_true', Bool.not_eq_false', decide_eq_true_eq, decide_eq_false_iff_not, beq_iff_eq, beq_eq_false_iff_ne, bne_iff_ne, bne_eq_false_iff_eq, ne_eq] at hc3'
    refine WP_skip ?_
    refine WP_region (WPO_all tt_ok (by kernel_rfl) ?_)
    refine WP_region (WPO_all tt_ok (by kernel_rfl) ?_)
    show Q1 .normal _
    exact LA_go hq1 (ci := IntKind.i64.wrap (((b.loads.getD at_.toNat zLoad).w.lo + (k1 : Int)) + 1)) (mn v1_1 ((mostA (weighedL b at_ ((b.loads.getD at_.toNat zLoad).w.lo + (k1 : Int)))).1.length : Int)) hk1 (by show _ = ((b.loads.getD at_.toNat zLoad).w.lo + ((k1 + 1 : Nat) : Int)); rw [wrapI (by omega) (by omega)]; omega) (loopR_go hi1 hk1 hc1 (by unfold worstL_b1; simp only [hc3, cond_true, cond_false])) trivial (Le_sel (ts := [6, 5, 2, 1]) (ids := [3, 0, 1, 2]) (nx := 4) (by kernel_rfl))
  intro u1_0 hR1 hP1 s' hl
  refine WP_le hl ?_
  clear hl s'
  refine WP_seq (WP_region (WPO_all tt_ok (by kernel_rfl) ?_))
  refine WP_ret ?_
  exact ⟨.s (.int .i64 u1_0), by kernel_rfl, fun nV w' h => ⟨by rw [show worstL b at_ = u1_0 from by unfold worstL; simp only [hR1, cond_true, cond_false]]; rfl, h.bel⟩⟩
end Go.Proofs.YthfnedbpmdkdjaaDoor.D
namespace Go.Proofs.YthfnedbpmdkdjaaDoor.D
open Go Go.ChangeShapes Go.WideShapes Go.RowKit Go.Proofs.YthfnedbpmdkdjaaDoor.Eng Go.Proofs.YthfnedbpmdkdjaaDoor.Cm
set_option linter.unusedVariables false
set_option linter.unusedSimpArgs false
set_option linter.unusedSectionVars false
set_option maxRecDepth 100000
theorem app_eq {a b c d : List Value} (h : a = b) (k : c = d) : a ++ c = b ++ d := by rw [h, k]
theorem opn3 {w : World} : Opn Tryd.prog w 3 (fun cs => ∃ (b : Int), cs = [iv b] ∧ i64B b ∧ True) := (Opn_int Tryd.underlying3).mono fun cs ⟨n, h1, h2⟩ => ⟨n, h1, h2, trivial⟩
theorem opn43 {w : World} : Opn Tryd.prog w 43 (fun cs => ∃ (b : Span), cs = [iv b.lo, iv b.hi] ∧ i64B b.lo ∧ i64B b.hi ∧ True) :=
  (Opn_parts (P := Tryd.prog) (w := w) [⟨0, 3, 1, (fun cs => ∃ (b : Int), cs = [iv b] ∧ i64B b ∧ True)⟩, ⟨1, 3, 1, (fun cs => ∃ (b : Int), cs = [iv b] ∧ i64B b ∧ True)⟩] 2 Tryd.underlying43 (by kernel_rfl) (by kernel_rfl) ⟨opn3, opn3, trivial⟩).mono fun cs h => by
    obtain ⟨hl, ⟨b0, e0, f0_0, _⟩, ⟨b1, e1, f1_0, _⟩, _⟩ := h
    exact ⟨(⟨b0, b1⟩ : Span), (tl 0 1 cs).trans (app_eq e0 ((tl 1 1 cs).trans (app_eq e1 (tlz hl)))), f0_0, f1_0, trivial⟩
theorem opn61 {w : World} : Opn Tryd.prog w 61 (fun cs => ∃ (b : Load), cs = [iv b.w.lo, iv b.w.hi, iv b.lanes] ∧ i64B b.w.lo ∧ i64B b.w.hi ∧ i64B b.lanes ∧ True) :=
  (Opn_parts (P := Tryd.prog) (w := w) [⟨0, 43, 2, (fun cs => ∃ (b : Span), cs = [iv b.lo, iv b.hi] ∧ i64B b.lo ∧ i64B b.hi ∧ True)⟩, ⟨2, 3, 1, (fun cs => ∃ (b : Int), cs = [iv b] ∧ i64B b ∧ True)⟩] 3 Tryd.underlying61 (by kernel_rfl) (by kernel_rfl) ⟨opn43, opn3, trivial⟩).mono fun cs h => by
    obtain ⟨hl, ⟨b0, e0, f0_0, f0_1, _⟩, ⟨b1, e1, f1_0, _⟩, _⟩ := h
    exact ⟨(⟨b0, b1⟩ : Load), (tl 0 2 cs).trans (app_eq e0 ((tl 2 1 cs).trans (app_eq e1 (tlz hl)))), f0_0, f0_1, f1_0, trivial⟩
theorem opn22 {w : World} : Opn Tryd.prog w 22 (fun cs => ∃ (g0 : Value) (b : List Load), cs = [g0] ∧ (Reads w g0 3 b encLoad zLoad ∧ (∀ a ∈ b, i64B a.w.lo ∧ i64B a.w.hi ∧ i64B a.lanes) ∧ b.length * 24 ≤ reachBytes) ∧ True) := (Opn_slice (encA := encLoad) (z := zLoad) (ok := (fun a : Load => i64B a.w.lo ∧ i64B a.w.hi ∧ i64B a.lanes)) (sz := 3) Tryd.underlying22 (by kernel_rfl) (opn61.mono fun cs ⟨a, h1, k0, k1, k2, _⟩ => ⟨a, h1, ⟨k0, k1, k2⟩⟩)).mono fun cs ⟨v, l, h1, h2, h3, h4⟩ => ⟨v, l, h1, ⟨h2, h3, h4⟩, trivial⟩
theorem opn24 {w : World} : Opn Tryd.prog w 24 (fun cs => ∃ (g0 : Value) (b : DBook), cs = [g0, iv b.rule, iv b.most] ∧ (Reads w g0 3 b.loads encLoad zLoad ∧ (∀ a ∈ b.loads, i64B a.w.lo ∧ i64B a.w.hi ∧ i64B a.lanes) ∧ b.loads.length * 24 ≤ reachBytes) ∧ i64B b.rule ∧ i64B b.most ∧ True) :=
  (Opn_parts (P := Tryd.prog) (w := w) [⟨0, 22, 1, (fun cs => ∃ (g0 : Value) (b : List Load), cs = [g0] ∧ (Reads w g0 3 b encLoad zLoad ∧ (∀ a ∈ b, i64B a.w.lo ∧ i64B a.w.hi ∧ i64B a.lanes) ∧ b.length * 24 ≤ reachBytes) ∧ True)⟩, ⟨1, 3, 1, (fun cs => ∃ (b : Int), cs = [iv b] ∧ i64B b ∧ True)⟩, ⟨2, 3, 1, (fun cs => ∃ (b : Int), cs = [iv b] ∧ i64B b ∧ True)⟩] 3 Tryd.underlying24 (by kernel_rfl) (by kernel_rfl) ⟨opn22, opn3, opn3, trivial⟩).mono fun cs h => by
    obtain ⟨hl, ⟨p0_0, b0, e0, f0_0, _⟩, ⟨b1, e1, f1_0, _⟩, ⟨b2, e2, f2_0, _⟩, _⟩ := h
    exact ⟨p0_0, (⟨b0, b1, b2⟩ : DBook), (tl 0 1 cs).trans (app_eq e0 ((tl 1 1 cs).trans (app_eq e1 ((tl 2 1 cs).trans (app_eq e2 (tlz hl)))))), f0_0, f1_0, f2_0, trivial⟩
theorem own : ownKnob Tryd.prog.godebug = none := by kernel_rfl
theorem laidOut : laidOutB Tryd.prog = true := by kernel_rfl
theorem gLanes : Tryd.prog.globalNamed "prow/deck.lanes" = some 0 := by kernel_rfl
theorem tLanes : (Tryd.prog.globals[0]?).map (·.type) = some 127 := by kernel_rfl
theorem gNob : Tryd.prog.globalNamed "prow/deck.nobody" = some 1 := by kernel_rfl
theorem tNob : (Tryd.prog.globals[1]?).map (·.type) = some 65 := by kernel_rfl
theorem int_of_trod {H : Type} {enc : TypeId × Value → H} {Pr : Program} {w : World} {base : Nat} {sp : Nat → Bool} {held : Bool} {fuel : Nat} {t : TypeId} {k : IntKind} {n : Int} {v : Value} {q : List MemPlace} (ht : Pr.underlying t = some (.int k)) (h : DataW.trod enc Pr w base sp held fuel t [v] = some (.lit (.int k n), q)) : v = .int k n := by
  cases fuel with
  | zero => cases h
  | succ m =>
    simp only [DataW.trod, ht] at h
    cases v <;> simp at h
    rename_i k' n'
    obtain ⟨⟨h1, h2⟩, h3⟩ := h
    first | (obtain ⟨h4, _⟩ := h3; subst h1; rw [h4]) | (subst h1; simp_all)
theorem deck_of {W : World} (hS : W.ShapedOpen Tryd.prog) (h : laidMetH Tryd.prog [("prow/deck.lanes", Rows.laid_prow_deck_lanes), ("prow/deck.nobody", Rows.laid_prow_deck_nobody)] W) : NobodyAt W ∧ LanesAt W := by
  constructor
  · have h1 : laidMet Tryd.prog [("prow/deck.nobody", Rows.laid_prow_deck_nobody)] W := by
      have h2 : laidMet Tryd.prog [("prow/deck.nobody", Rows.laid_prow_deck_nobody)] W ∧ handlesMet Tryd.prog [("prow/deck.lanes", Rows.laid_prow_deck_lanes)] W := h
      exact h2.1
    obtain ⟨ps, ⟨g, t, cs, fuel, p, q, hg, ht, hv, hd, _⟩, _⟩ := h1
    obtain rfl := Option.some.inj (gNob.symm.trans hg)
    obtain rfl := Option.some.inj (tNob.symm.trans ht)
    obtain ⟨c, hc, hsz, _⟩ := hS.1 1 #[.int .i64 0, .int .i64 0] 65 (Nat.le_of_ble_eq_true (by kernel_rfl)) (by kernel_rfl)
    have hcs : ∀ i : Nat, W.cell? ⟨1, i, none⟩ = cs[i]? := fun i => World.var?_cell hg hv i
    have hcc : ∀ i : Nat, W.cell? ⟨1, i, none⟩ = c[i]? := fun i => cell_of_row W 1 _ _ _ _ hc
    have hd' : DataW.trod (fun _ => ()) Tryd.prog W 0 (fun _ => true) false fuel 65 cs.toList = some (.agg [.lit (.int .i64 (-1)), .lit (.int .i64 0)], p) := hd
    cases fuel with
    | zero => cases hd'
    | succ n =>
      simp only [DataW.trod, Tryd.underlying65] at hd'
      split at hd'
      · rename_i hl
        obtain ⟨xs, hxs, he⟩ := Option.map_eq_some_iff.1 hd'
        have hl2 : cs.toList.length = 2 := hl.trans (by kernel_rfl)
        have hk : Tryd.prog.cellsOf 3 = 1 := by kernel_rfl
        simp only [Prod.mk.injEq, DataW.agg.injEq] at he
        obtain ⟨y0, hy0, hx0⟩ := mapM_get hxs 0 _ rfl
        obtain ⟨y1, hy1, hx1⟩ := mapM_get hxs 1 _ rfl
        have h0 : y0.1 = .lit (.int .i64 (-1)) := by
          have := congrArg (fun l => l[0]?) he.1
          simp only [List.getElem?_map, hx0, Option.map_some] at this
          exact Option.some.inj this
        have h1 : y1.1 = .lit (.int .i64 0) := by
          have := congrArg (fun l => l[1]?) he.1
          simp only [List.getElem?_map, hx1, Option.map_some] at this
          exact Option.some.inj this
        simp only [hk] at hy0 hy1
        match hcl : cs.toList, hl2 with
        | [u0, u1], _ =>
          rw [hcl] at hy0 hy1
          have hu0 : DataW.trod (fun _ => ()) Tryd.prog W 0 (fun _ => true) false n 3 [u0] = some (.lit (.int .i64 (-1)), y0.2) := by rw [← h0]; exact hy0
          have hu1 : DataW.trod (fun _ => ()) Tryd.prog W 0 (fun _ => true) false n 3 [u1] = some (.lit (.int .i64 0), y1.2) := by rw [← h1]; exact hy1
          obtain rfl := int_of_trod Tryd.underlying3 hu0
          obtain rfl := int_of_trod Tryd.underlying3 hu1
          unfold NobodyAt
          rw [hc]
          have e0 := hcc 0
          have e1 := hcc 1
          rw [hcs 0, ← Array.getElem?_toList, hcl] at e0
          rw [hcs 1, ← Array.getElem?_toList, hcl] at e1
          have : c = #[iv (-1), iv 0] := by
            have hs2 : c.size = 2 := hsz
            apply Array.ext
            · rw [hs2]; rfl
            · intro i h1 h2
              rw [hs2] at h1
              have : i = 0 ∨ i = 1 := by omega
              rcases this with rfl | rfl
              · have := e0.symm; rw [Array.getElem?_eq_getElem (by omega)] at this; exact Option.some.inj this
              · have := e1.symm; rw [Array.getElem?_eq_getElem (by omega)] at this; exact Option.some.inj this
          rw [this]
      · cases hd'
  · obtain ⟨g, t, cs, fuel, p, hg, ht, hv, hd⟩ := h.funcs List.mem_cons_self
    obtain rfl := Option.some.inj (gLanes.symm.trans hg)
    obtain rfl := Option.some.inj (tLanes.symm.trans ht)
    obtain ⟨c, hc, hsz, _⟩ := hS.1 0 #[.nilFunc, .nilFunc, .nilFunc] 127 (Nat.le_of_ble_eq_true (by kernel_rfl)) (by kernel_rfl)
    have hcs : ∀ i : Nat, W.cell? ⟨0, i, none⟩ = cs[i]? := fun i => World.var?_cell hg hv i
    have hcc : ∀ i : Nat, W.cell? ⟨0, i, none⟩ = c[i]? := fun i => cell_of_row W 0 _ _ _ _ hc
    have hd' : DataW.trod (funcToken Tryd.prog) Tryd.prog W 0 (fun _ => true) true fuel 127 cs.toList = some (.agg [.held [40, 112, 114, 111, 119, 47, 100, 101, 99, 107, 46, 108, 105, 115, 116, 41, 46, 112, 111, 114, 116], .held [40, 112, 114, 111, 119, 47, 100, 101, 99, 107, 46, 108, 105, 115, 116, 41, 46, 109, 105, 100, 100, 108, 101], .held [40, 112, 114, 111, 119, 47, 100, 101, 99, 107, 46, 108, 105, 115, 116, 41, 46, 115, 116, 97, 114]], p) := hd
    cases fuel with
    | zero => cases hd'
    | succ n =>
      simp only [DataW.trod, Tryd.underlying127] at hd'
      split at hd'
      · rename_i hl
        obtain ⟨xs, hxs, he⟩ := Option.map_eq_some_iff.1 hd'
        have hl2 : cs.toList.length = 3 := hl.trans (by kernel_rfl)
        have hk : Tryd.prog.cellsOf 126 = 1 := by kernel_rfl
        simp only [Prod.mk.injEq, DataW.agg.injEq] at he
        obtain ⟨y0, hy0, hx0⟩ := mapM_get hxs 0 0 rfl
        obtain ⟨y1, hy1, hx1⟩ := mapM_get hxs 1 1 rfl
        obtain ⟨y2, hy2, hx2⟩ := mapM_get hxs 2 2 rfl
        have h0 : y0.1 = .held [40, 112, 114, 111, 119, 47, 100, 101, 99, 107, 46, 108, 105, 115, 116, 41, 46, 112, 111, 114, 116] := by
          have := congrArg (fun l => l[0]?) he.1
          simp only [List.getElem?_map, hx0, Option.map_some] at this
          exact Option.some.inj this
        have h1 : y1.1 = .held [40, 112, 114, 111, 119, 47, 100, 101, 99, 107, 46, 108, 105, 115, 116, 41, 46, 109, 105, 100, 100, 108, 101] := by
          have := congrArg (fun l => l[1]?) he.1
          simp only [List.getElem?_map, hx1, Option.map_some] at this
          exact Option.some.inj this
        have h2 : y2.1 = .held [40, 112, 114, 111, 119, 47, 100, 101, 99, 107, 46, 108, 105, 115, 116, 41, 46, 115, 116, 97, 114] := by
          have := congrArg (fun l => l[2]?) he.1
          simp only [List.getElem?_map, hx2, Option.map_some] at this
          exact Option.some.inj this
        rw [hk] at hy0 hy1 hy2
        match hcl : cs.toList, hl2 with
        | [u0, u1, u2], _ =>
          rw [hcl] at hy0 hy1 hy2
          have hu0 : DataW.trod (funcToken Tryd.prog) Tryd.prog W 0 (fun _ => true) true n 126 [u0] = some (.held [40, 112, 114, 111, 119, 47, 100, 101, 99, 107, 46, 108, 105, 115, 116, 41, 46, 112, 111, 114, 116], y0.2) := by rw [← h0]; exact hy0
          have hu1 : DataW.trod (funcToken Tryd.prog) Tryd.prog W 0 (fun _ => true) true n 126 [u1] = some (.held [40, 112, 114, 111, 119, 47, 100, 101, 99, 107, 46, 108, 105, 115, 116, 41, 46, 109, 105, 100, 100, 108, 101], y1.2) := by rw [← h1]; exact hy1
          have hu2 : DataW.trod (funcToken Tryd.prog) Tryd.prog W 0 (fun _ => true) true n 126 [u2] = some (.held [40, 112, 114, 111, 119, 47, 100, 101, 99, 107, 46, 108, 105, 115, 116, 41, 46, 115, 116, 97, 114], y2.2) := by rw [← h2]; exact hy2
          obtain rfl := Go.func_of_trod (f0 := 147) Tryd.underlying126 (by kernel_rfl) hu0
          obtain rfl := Go.func_of_trod (f0 := 145) Tryd.underlying126 (by kernel_rfl) hu1
          obtain rfl := Go.func_of_trod (f0 := 148) Tryd.underlying126 (by kernel_rfl) hu2
          unfold LanesAt
          rw [hc]
          have e0 := hcc 0
          have e1 := hcc 1
          have e2 := hcc 2
          rw [hcs 0, ← Array.getElem?_toList, hcl] at e0
          rw [hcs 1, ← Array.getElem?_toList, hcl] at e1
          rw [hcs 2, ← Array.getElem?_toList, hcl] at e2
          have : c = #[.func (.func 147) #[] #[], .func (.func 145) #[] #[], .func (.func 148) #[] #[]] := by
            have hs2 : c.size = 3 := hsz
            apply Array.ext
            · rw [hs2]; rfl
            · intro i h1 h2
              rw [hs2] at h1
              have : i = 0 ∨ i = 1 ∨ i = 2 := by omega
              rcases this with rfl | rfl | rfl
              · have := e0.symm; rw [Array.getElem?_eq_getElem (by omega)] at this; exact Option.some.inj this
              · have := e1.symm; rw [Array.getElem?_eq_getElem (by omega)] at this; exact Option.some.inj this
              · have := e2.symm; rw [Array.getElem?_eq_getElem (by omega)] at this; exact Option.some.inj this
          rw [this]
      · cases hd'
end Go.Proofs.YthfnedbpmdkdjaaDoor.D
namespace Go.Proofs.YthfnedbpmdkdjaaDoor.D
open Go Go.RowKit Go.Proofs.YthfnedbpmdkdjaaDoor.Eng Go.Proofs.YthfnedbpmdkdjaaDoor.Cm
set_option linter.unusedVariables false
set_option linter.unusedSimpArgs false
set_option linter.unusedSectionVars false
theorem sound_eq (b : DBook) : soundL b = ((((((checkD b) == 0) && (insideF (b.loads.length : Int) 1 5)) && (insideF b.rule 0 30)) && (insideF b.most 1 200)) && (List.range b.loads.length).all fun k => (validF (b.loads.getD k zLoad).w 1 60) && (insideF (b.loads.getD k zLoad).lanes 1 7)) := by
  unfold soundL
  rw [loopR_all (fun k => (validF (b.loads.getD k zLoad).w 1 60) && (insideF (b.loads.getD k zLoad).lanes 1 7)) (fun k v hk => by simp only [soundL_c1]; rw [decide_eq_true (by omega), Bool.and_true]) (fun k hk => rfl)]
theorem sound_iff {b : DBook} : soundL b = true ↔ ValidD b := by
  rw [sound_eq]
  simp only [Bool.and_eq_true, List.all_eq_true, List.mem_range, beq_iff_eq]
  constructor
  · rintro ⟨⟨⟨⟨h, _⟩, _⟩, _⟩, _⟩
    exact checkD_valid.1 h
  · intro h
    refine ⟨⟨⟨⟨checkD_valid.2 h, ?_⟩, ?_⟩, ?_⟩, fun k hk => ?_⟩
    · have := h.n; simp only [insideF, Bool.and_eq_true, decide_eq_true_eq]; omega
    · have := h.rule; simp only [insideF, Bool.and_eq_true, decide_eq_true_eq]; omega
    · have := h.most; simp only [insideF, Bool.and_eq_true, decide_eq_true_eq]; omega
    · have := h.load hk
      simp only [insideF, validF, Bool.and_eq_true, decide_eq_true_eq]; omega
theorem sound_valid {b : DBook} (h : (!(soundL b)) = false) : ValidD b := sound_iff.1 (by simpa using h)
theorem sound_not {b : DBook} (h : (!(soundL b)) = true) : checkD b = 30 := by
  rcases checkD_two b with h1 | h1
  · have := sound_iff.2 (checkD_valid.1 h1)
    rw [this] at h; cases h
  · exact h1
end Go.Proofs.YthfnedbpmdkdjaaDoor.D
namespace Go.Proofs.YthfnedbpmdkdjaaDoor.D
open Go Go.RowKit Go.Proofs.YthfnedbpmdkdjaaDoor.Eng Go.Proofs.YthfnedbpmdkdjaaDoor.Cm
set_option linter.unusedVariables false
set_option linter.unusedSimpArgs false
set_option linter.unusedSectionVars false
def M (n s : Nat) : List Int := membersF (s : Int) (n : Int)
theorem mostA_ok {b : DBook} (hv : ValidD b) : mostA b = (mostD b, 0) := by
  unfold mostA
  rw [checkD_valid.2 hv]; rfl
end Go.Proofs.YthfnedbpmdkdjaaDoor.D
namespace Go.Proofs.YthfnedbpmdkdjaaDoor.D
open Go Go.RowKit Go.Proofs.YthfnedbpmdkdjaaDoor.Eng Go.Proofs.YthfnedbpmdkdjaaDoor.Cm
set_option linter.unusedVariables false
set_option linter.unusedSimpArgs false
set_option linter.unusedSectionVars false
def DeckWeighL_c1 (b : DBook) (n : Int) (k1 : Nat) : Bool → Bool := fun v1_1 => decide ((k1 : Int) < (b.loads.length : Int))
def DeckWeighL_b1 (b : DBook) (n : Int) (k1 : Nat) : Bool → Bd Bool Bool := fun v1_1 => .go (v1_1 || (decide ((b.loads.getD k1 zLoad).w.lo < (b.loads.getD k1 zLoad).w.hi)))
def DeckWeighL (b : DBook) (n : Int) : Bool :=
  (bif !(soundL b) then (((weighA b).2 == 30) && ((weighA b).1 == 0)) && stowedL else (match loopR (DeckWeighL_c1 b n) (DeckWeighL_b1 b n) b.loads.length 0 false with | .brk u1_0 => (bif (!(((weighA b).2 == 0) == u1_0)) || (((weighA b).2 != 0) && (((weighA b).2 != 4) || ((weighA b).1 != 0))) then false else (bif ((weighA b).2 != 0) || ((b.loads.getD (modF n (b.loads.length : Int)).toNat zLoad).w.lo == (b.loads.getD (modF n (b.loads.length : Int)).toNat zLoad).w.hi) then stowedL else (bif (!(insideF (weighA b).1 0 (IntKind.i64.wrap ((b.loads.length : Int) - 1)))) || ((b.loads.getD (weighA b).1.toNat zLoad).w.lo == (b.loads.getD (weighA b).1.toNat zLoad).w.hi) then false else ((decide ((worstL b (modF n (b.loads.length : Int))) ≥ 0)) && ((decide ((worstL b (weighA b).1) > (worstL b (modF n (b.loads.length : Int))))) || (((worstL b (weighA b).1) == (worstL b (modF n (b.loads.length : Int)))) && (decide ((weighA b).1 ≤ (modF n (b.loads.length : Int))))))) && stowedL))) | .ret r => r))
theorem DeckWeighL_calls (g0 : Value) (b : DBook) (n : Int) (w : World) (r0 : Reads w g0 3 b.loads encLoad zLoad) (hnb : NobodyAt w) (hla : LanesAt w) : Calls Tryd.prog 14 #[.agg #[g0, iv b.rule, iv b.most], iv n] w fun e w' => e = .returned (.bool (DeckWeighL b n)) ∧ Below w.heap.size w w' := by
  refine calls_of_WP (cx := cx0 w (vn [g0]) 1) (n := vn [g0]) (vs := [.g [.ref 0, .int .i64 b.rule, .int .i64 b.most], .s (.int .i64 n)]) (hp := [(0, .sl .ro 61 3 b.loads encLoad zLoad), (1, .pf NobodyAt (· = 1)), (2, .pf LanesAt (· = 0))]) (nx := 3) tt_ok Tryd.func14 rfl rfl rfl (by kernel_rfl) (HSat_args (vn_one (by simp [r0.one])) (by decide) ⟨⟨⟨fun _ => rfl, by decide, r0⟩, (Nat.le_of_ble_eq_true rfl)⟩, ⟨⟨hnb, fun w1 w2 h1 hw => (hw 1 rfl).trans h1, fun g hg => by cases hg; exact (Array.getElem?_eq_some_iff.1 hnb).1⟩, (Nat.le_of_ble_eq_true rfl)⟩, ⟨⟨hla, fun w1 w2 h1 hw => (hw 0 rfl).trans h1, fun g hg => by cases hg; exact (Array.getElem?_eq_some_iff.1 hla).1⟩, (Nat.le_of_ble_eq_true rfl)⟩, trivial⟩) (vsOk (by kernel_rfl)) ?_
  have hl0 := Reads.len r0
  refine WP_seq (WP_region (WPO_all tt_ok (by kernel_rfl) ?_))
  refine WP_seq (WP_region (WPO_run tt_ok 1 (by kernel_rfl) ?_))
  refine CALL 48 [.g [.ref 0, .int .i64 b.rule, .int .i64 b.most]] (.t [(false, [.int .i64 (weighA b).1]), (false, [.int .i64 (weighA b).2])]) [] (by kernel_rfl) (goes_of (by kernel_rfl)) (by kernel_rfl) (by kernel_rfl) (fun hG nV w h => weighA_calls (nV 0) b w (h.reads (id := 0) (kd := .ro) (e := 61) (by kernel_rfl)) (h.ents (1, .pf NobodyAt (· = 1)) (fnd_mem (by kernel_rfl))).1 (h.ents (2, .pf LanesAt (· = 0)) (fnd_mem (by kernel_rfl))).1 ) ?_
  refine WPO_all tt_ok (by kernel_rfl) ?_
  refine WP_seq (WP_seq (WP_region (WPO_run tt_ok 1 (by kernel_rfl) ?_)))
  refine CALL 26 [.g [.ref 0, .int .i64 b.rule, .int .i64 b.most]] (.s (.bool (soundL b))) [] (by kernel_rfl) (goes_of (by kernel_rfl)) (by kernel_rfl) (by kernel_rfl) (fun hG nV w h => soundL_calls (nV 0) b w (h.reads (id := 0) (kd := .ro) (e := 61) (by kernel_rfl)) ) ?_
  refine WPO_all tt_ok (by kernel_rfl) ?_
  refine WP_cond (!(soundL b)) (by kernel_rfl) (fun hc2 => ?_) (fun hc2 => ?_)
  · have hc2' := hc2; try simp only [Bool.and_eq_true, Bool.or_eq_true, Bool.and_eq_false_iff, Bool.or_eq_false_iff, Bool.not_eq_true', Bool.not_eq_false', decide_eq_true_eq, decide_eq_false_iff_not, beq_iff_eq, beq_eq_false_iff_ne, bne_iff_ne, bne_eq_false_iff_eq, ne_eq] at hc2'
    refine WP_seq (WP_region (WPO_run tt_ok 7 (by kernel_rfl) ?_))
    refine CALL 21 [] (.s (.bool stowedL)) [(((weighA b).2 == 30) && ((weighA b).1 == 0), true)] (by kernel_rfl) (goes_of (by kernel_rfl)) (by kernel_rfl) (by kernel_rfl) (fun hG nV w h => stowedL_calls   w (h.ents (1, .pf NobodyAt (· = 1)) (fnd_mem (by kernel_rfl))).1 (h.ents (2, .pf LanesAt (· = 0)) (fnd_mem (by kernel_rfl))).1 ) ?_
    refine WPO_all tt_ok (by kernel_rfl) ?_
    refine WP_ret ?_
    exact ⟨.s (.bool ((((weighA b).2 == 30) && ((weighA b).1 == 0)) && stowedL)), by kernel_rfl, fun nV w' h => ⟨by rw [show DeckWeighL b n = ((((weighA b).2 == 30) && ((weighA b).1 == 0)) && stowedL) from by unfold DeckWeighL; simp only [hc2, cond_true, cond_false]]; rfl, h.bel⟩⟩
  have hc2' := hc2; try simp only [Bool.and_eq_true, Bool.or_eq_true, Bool.and_eq_false_iff, Bool.or_eq_false_iff, Bool.not_eq_true', Bool.not_eq_false', decide_eq_true_eq, decide_eq_false_iff_not, beq_iff_eq, beq_eq_false_iff_ne, bne_iff_ne, bne_eq_false_iff_eq, ne_eq] at hc2'
  refine WP_skip ?_
  have hv : ValidD b := sound_valid (by assumption)
  have hb5 := hv.n.2
  have hn1 := hv.n.1
  have hmd := modF_in n (b.loads.length : Int) (by have := hv.n; omega) (by omega)
  have hwl : IntKind.i64.wrap ((b.loads.length : Int) - 1) = (b.loads.length : Int) - 1 := wrapI (by omega) (by omega)
  refine WP_seq (WP_region (WPO_all tt_ok (by kernel_rfl) ?_))
  refine WP_seq (WP_seq (WP_region (WPO_all tt_ok (by kernel_rfl) ?_)))
  refine WP_loopA (ρ := Bool) (DeckWeighL_c1 b n) (DeckWeighL_b1 b n) b.loads.length false (fun k : Nat => (k : Int)) (fun (ci : Int) (zz : Bool) => ⟨145, [(8, [], .s (.int .i64 ci)), (7, [], .s (.bool zz)), (6, [], .s (.int .i64 (weighA b).2)), (5, [], .s (.int .i64 (weighA b).1)), (2, [], .s (.p 3 0)), (1, [], .s (.int .i64 n))], [(3, .box 24 [.ref 0, .int .i64 b.rule, .int .i64 b.most]), (0, .sl .ro 61 3 b.loads encLoad zLoad), (1, .pf NobodyAt (· = 1)), (2, .pf LanesAt (· = 0))], 4, []⟩) (fun zz : Bool => ⟨145, [(7, [], .s (.bool zz)), (6, [], .s (.int .i64 (weighA b).2)), (5, [], .s (.int .i64 (weighA b).1)), (2, [], .s (.p 3 0)), (1, [], .s (.int .i64 n))], [(3, .box 24 [.ref 0, .int .i64 b.rule, .int .i64 b.most]), (0, .sl .ro 61 3 b.loads encLoad zLoad), (1, .pf NobodyAt (· = 1)), (2, .pf LanesAt (· = 0))], 4, []⟩) (fun k zz => True) trivial ⟨0, rfl, Le_sel (ts := [8, 7, 6, 5, 2, 1]) (ids := [3, 0, 1, 2]) (nx := 4) (by kernel_rfl)⟩ ?_ ?_
  · intro k1 v1_1 hn1 hp1 hi1 Q1 hq1 ho1
    refine WP_seq (WP_seq (WP_region (WPO_all tt_ok (by kernel_rfl) ?_)))
    refine WP_cond (decide ((k1 : Int) < (b.loads.length : Int))) (by kernel_rfl) (fun hc3 => ?_) (fun hc3 => ?_)
    rotate_left
    · refine WP_exit ?_
      show Q1 (.exit 0) _
      exact LA_exit hq1 v1_1 (loopR_end hi1 hc3) ⟨k1, hn1, hp1⟩ (Le_sel (ts := [7, 6, 5, 2, 1]) (ids := [3, 0, 1, 2]) (nx := 4) (by kernel_rfl))
    have hc3' := of_decide_eq_true hc3
    have hk1 : k1 < b.loads.length := by omega
    refine WP_skip ?_
    refine WP_seq (WP_block ?_)
    refine WP_draw (by kernel_rfl) (by kernel_rfl) ?_
    refine WPQ_run tt_ok 5 (by kernel_rfl) ?_
    refine QIX tt_ok (k1 : Int) b.loads.length [(v1_1, false)] (by kernel_rfl) (fun hG => (by first | exact ⟨by omega, by omega⟩ | (simp only [AllEq, and_true, Bool.or_eq_false_iff, Bool.and_eq_true, Bool.not_eq_false', Bool.not_eq_true', insideF, decide_eq_true_eq, ge_iff_le, hwl] at hG; constructor <;> omega))) ?_
    refine WPQ_run tt_ok 6 (by kernel_rfl) ?_
    refine QIX tt_ok (k1 : Int) b.loads.length [(v1_1, false)] (by kernel_rfl) (fun hG => (by first | exact ⟨by omega, by omega⟩ | (simp only [AllEq, and_true, Bool.or_eq_false_iff, Bool.and_eq_true, Bool.not_eq_false', Bool.not_eq_true', insideF, decide_eq_true_eq, ge_iff_le, hwl] at hG; constructor <;> omega))) ?_
    refine WPQ_all tt_ok (by kernel_rfl) ?_
    refine WP_region (WPO_all tt_ok (by kernel_rfl) ?_)
    show Q1 .normal _
    exact LA_go hq1 (ci := IntKind.i64.wrap ((k1 : Int) + 1)) (v1_1 || (decide ((b.loads.getD k1 zLoad).w.lo < (b.loads.getD k1 zLoad).w.hi))) hk1 (by show _ = ((k1 + 1 : Nat) : Int); rw [wrapI (by omega) (by omega)]; omega) (loopR_go hi1 hk1 hc3 (rfl)) trivial (Le_sel (ts := [8, 7, 6, 5, 2, 1]) (ids := [3, 0, 1, 2]) (nx := 4) (by kernel_rfl))
  intro u1_0 hR1 hP1 s' hl
  refine WP_le hl ?_
  clear hl s'
  refine WP_seq (WP_seq (WP_region (WPO_run tt_ok 3 (by kernel_rfl) ?_)))
  refine BIN .neq 4 (.tmp 55) (.tmp 56) (.s (.bool ((weighA b).2 == 0))) (.s (.bool u1_0)) (.s (.bool (!(((weighA b).2 == 0) == u1_0)))) [] (by kernel_rfl) (by kernel_rfl) (by kernel_rfl) (fun _ => BinOk_bn (by kernel_rfl) _ _) ?_
  refine WPO_all tt_ok (by kernel_rfl) ?_
  refine WP_cond ((!(((weighA b).2 == 0) == u1_0)) || (((weighA b).2 != 0) && (((weighA b).2 != 4) || ((weighA b).1 != 0)))) (by kernel_rfl) (fun hc5 => ?_) (fun hc5 => ?_)
  · have hc5' := hc5; try simp only [Bool.and_eq_true, Bool.or_eq_true, Bool.and_eq_false_iff, Bool.or_eq_false_iff, Bool.not_eq_true', Bool.not_eq_false', decide_eq_true_eq, decide_eq_false_iff_not, beq_iff_eq, beq_eq_false_iff_ne, bne_iff_ne, bne_eq_false_iff_eq, ne_eq] at hc5'
    refine WP_seq (WP_region (WPO_all tt_ok (by kernel_rfl) ?_))
    refine WP_ret ?_
    exact ⟨.s (.bool false), by kernel_rfl, fun nV w' h => ⟨by rw [show DeckWeighL b n = false from by unfold DeckWeighL; simp only [hc2, hR1, hc5, cond_true, cond_false]]; rfl, h.bel⟩⟩
  have hc5' := hc5; try simp only [Bool.and_eq_true, Bool.or_eq_true, Bool.and_eq_false_iff, Bool.or_eq_false_iff, Bool.not_eq_true', Bool.not_eq_false', decide_eq_true_eq, decide_eq_false_iff_not, beq_iff_eq, beq_eq_false_iff_ne, bne_iff_ne, bne_eq_false_iff_eq, ne_eq] at hc5'
  refine WP_skip ?_
  refine WP_seq (WP_region (WPO_run tt_ok 4 (by kernel_rfl) ?_))
  refine CALL 54 [.s (.int .i64 n), .s (.int .i64 (b.loads.length : Int))] (.s (.int .i64 (modF n (b.loads.length : Int)))) [] (by kernel_rfl) (goes_of (by kernel_rfl)) (by kernel_rfl) (by kernel_rfl) (fun hG nV w h => modF_calls  n (b.loads.length : Int) w  ) ?_
  refine WPO_all tt_ok (by kernel_rfl) ?_
  refine WP_seq (WP_seq (WP_draw (by kernel_rfl) (by kernel_rfl) ?_))
  refine WPQ_run tt_ok 6 (by kernel_rfl) ?_
  refine QIX tt_ok (modF n (b.loads.length : Int)) b.loads.length [((weighA b).2 != 0, false)] (by kernel_rfl) (fun hG => (by first | exact ⟨by omega, by omega⟩ | (simp only [AllEq, and_true, Bool.or_eq_false_iff, Bool.and_eq_true, Bool.not_eq_false', Bool.not_eq_true', insideF, decide_eq_true_eq, ge_iff_le, hwl] at hG; constructor <;> omega))) ?_
  refine WPQ_run tt_ok 6 (by kernel_rfl) ?_
  refine QIX tt_ok (modF n (b.loads.length : Int)) b.loads.length [((weighA b).2 != 0, false)] (by kernel_rfl) (fun hG => (by first | exact ⟨by omega, by omega⟩ | (simp only [AllEq, and_true, Bool.or_eq_false_iff, Bool.and_eq_true, Bool.not_eq_false', Bool.not_eq_true', insideF, decide_eq_true_eq, ge_iff_le, hwl] at hG; constructor <;> omega))) ?_
  refine WPQ_all tt_ok (by kernel_rfl) ?_
  refine WP_cond (((weighA b).2 != 0) || ((b.loads.getD (modF n (b.loads.length : Int)).toNat zLoad).w.lo == (b.loads.getD (modF n (b.loads.length : Int)).toNat zLoad).w.hi)) (by kernel_rfl) (fun hc7 => ?_) (fun hc7 => ?_)
  · have hc7' := hc7; try simp only [Bool.and_eq_true, Bool.or_eq_true, Bool.and_eq_false_iff, Bool.or_eq_false_iff, Bool.not_eq_true', Bool.not_eq_false', decide_eq_true_eq, decide_eq_false_iff_not, beq_iff_eq, beq_eq_false_iff_ne, bne_iff_ne, bne_eq_false_iff_eq, ne_eq] at hc7'
    refine WP_seq (WP_region (CALL 21 [] (.s (.bool stowedL)) [] (by kernel_rfl) (goes_of (by kernel_rfl)) (by kernel_rfl) (by kernel_rfl) (fun hG nV w h => stowedL_calls   w (h.ents (1, .pf NobodyAt (· = 1)) (fnd_mem (by kernel_rfl))).1 (h.ents (2, .pf LanesAt (· = 0)) (fnd_mem (by kernel_rfl))).1 ) ?_))
    refine WPO_all tt_ok (by kernel_rfl) ?_
    refine WP_ret ?_
    exact ⟨.s (.bool stowedL), by kernel_rfl, fun nV w' h => ⟨by rw [show DeckWeighL b n = stowedL from by unfold DeckWeighL; simp only [hc2, hR1, hc5, hc7, cond_true, cond_false]]; rfl, h.bel⟩⟩
  have hc7' := hc7; try simp only [Bool.and_eq_true, Bool.or_eq_true, Bool.and_eq_false_iff, Bool.or_eq_false_iff, Bool.not_eq_true', Bool.not_eq_false', decide_eq_true_eq, decide_eq_false_iff_not, beq_iff_eq, beq_eq_false_iff_ne, bne_iff_ne, bne_eq_false_iff_eq, ne_eq] at hc7'
  refine WP_skip ?_
  refine WP_seq (WP_seq (WP_draw (by kernel_rfl) (by kernel_rfl) ?_))
  refine WPQ_run tt_ok 5 (by kernel_rfl) ?_
  refine QCALL 34 [.s (.int .i64 (weighA b).1), .s (.int .i64 0), .s (.int .i64 (IntKind.i64.wrap ((b.loads.length : Int) - 1)))] (.s (.bool (insideF (weighA b).1 0 (IntKind.i64.wrap ((b.loads.length : Int) - 1))))) [] (by kernel_rfl) (goes_of (by kernel_rfl)) (by kernel_rfl) (by kernel_rfl) (fun hG nV w h => insideF_calls  (weighA b).1 0 (IntKind.i64.wrap ((b.loads.length : Int) - 1)) w  ) ?_
  refine WPQ_run tt_ok 5 (by kernel_rfl) ?_
  refine QIX tt_ok (weighA b).1 b.loads.length [(!(insideF (weighA b).1 0 (IntKind.i64.wrap ((b.loads.length : Int) - 1))), false)] (by kernel_rfl) (fun hG => (by first | exact ⟨by omega, by omega⟩ | (simp only [AllEq, and_true, Bool.or_eq_false_iff, Bool.and_eq_true, Bool.not_eq_false', Bool.not_eq_true', insideF, decide_eq_true_eq, ge_iff_le, hwl] at hG; constructor <;> omega))) ?_
  refine WPQ_run tt_ok 6 (by kernel_rfl) ?_
  refine QIX tt_ok (weighA b).1 b.loads.length [(!(insideF (weighA b).1 0 (IntKind.i64.wrap ((b.loads.length : Int) - 1))), false)] (by kernel_rfl) (fun hG => (by first | exact ⟨by omega, by omega⟩ | (simp only [AllEq, and_true, Bool.or_eq_false_iff, Bool.and_eq_true, Bool.not_eq_false', Bool.not_eq_true', insideF, decide_eq_true_eq, ge_iff_le, hwl] at hG; constructor <;> omega))) ?_
  refine WPQ_all tt_ok (by kernel_rfl) ?_
  refine WP_cond ((!(insideF (weighA b).1 0 (IntKind.i64.wrap ((b.loads.length : Int) - 1)))) || ((b.loads.getD (weighA b).1.toNat zLoad).w.lo == (b.loads.getD (weighA b).1.toNat zLoad).w.hi)) (by kernel_rfl) (fun hc9 => ?_) (fun hc9 => ?_)
  · have hc9' := hc9; try simp only [Bool.and_eq_true, Bool.or_eq_true, Bool.and_eq_false_iff, Bool.or_eq_false_iff, Bool.not_eq_true', Bool.not_eq_false', decide_eq_true_eq, decide_eq_false_iff_not, beq_iff_eq, beq_eq_false_iff_ne, bne_iff_ne, bne_eq_false_iff_eq, ne_eq] at hc9'
    refine WP_seq (WP_region (WPO_all tt_ok (by kernel_rfl) ?_))
    refine WP_ret ?_
    exact ⟨.s (.bool false), by kernel_rfl, fun nV w' h => ⟨by rw [show DeckWeighL b n = false from by unfold DeckWeighL; simp only [hc2, hR1, hc5, hc7, hc9, cond_true, cond_false]]; rfl, h.bel⟩⟩
  have hc9' := hc9; try simp only [Bool.and_eq_true, Bool.or_eq_true, Bool.and_eq_false_iff, Bool.or_eq_false_iff, Bool.not_eq_true', Bool.not_eq_false', decide_eq_true_eq, decide_eq_false_iff_not, beq_iff_eq, beq_eq_false_iff_ne, bne_iff_ne, bne_eq_false_iff_eq, ne_eq] at hc9'
  refine WP_skip ?_
  have hcx := (by assumption : ((!(insideF (weighA b).1 0 (IntKind.i64.wrap ((b.loads.length : Int) - 1)))) || _) = false); simp only [AllEq, and_true, Bool.or_eq_false_iff, Bool.and_eq_true, Bool.not_eq_false', Bool.not_eq_true', insideF, decide_eq_true_eq, ge_iff_le, hwl] at hcx
  refine WP_seq (WP_draw (by kernel_rfl) (by kernel_rfl) ?_)
  refine WPQ_run tt_ok 2 (by kernel_rfl) ?_
  refine QCALL 62 [.g [.ref 0, .int .i64 b.rule, .int .i64 b.most], .s (.int .i64 (weighA b).1)] (.s (.int .i64 (worstL b (weighA b).1))) [] (by kernel_rfl) (goes_of (by kernel_rfl)) (by kernel_rfl) (by kernel_rfl) (fun hG nV w h => worstL_calls (nV 0) b (weighA b).1 w (h.reads (id := 0) (kd := .ro) (e := 61) (by kernel_rfl)) (h.ents (1, .pf NobodyAt (· = 1)) (fnd_mem (by kernel_rfl))).1 (h.ents (2, .pf LanesAt (· = 0)) (fnd_mem (by kernel_rfl))).1 (by first | assumption | omega) (by first | assumption | omega) (by first | assumption | omega)) ?_
  refine WPQ_run tt_ok 2 (by kernel_rfl) ?_
  refine QCALL 62 [.g [.ref 0, .int .i64 b.rule, .int .i64 b.most], .s (.int .i64 (modF n (b.loads.length : Int)))] (.s (.int .i64 (worstL b (modF n (b.loads.length : Int))))) [] (by kernel_rfl) (goes_of (by kernel_rfl)) (by kernel_rfl) (by kernel_rfl) (fun hG nV w h => worstL_calls (nV 0) b (modF n (b.loads.length : Int)) w (h.reads (id := 0) (kd := .ro) (e := 61) (by kernel_rfl)) (h.ents (1, .pf NobodyAt (· = 1)) (fnd_mem (by kernel_rfl))).1 (h.ents (2, .pf LanesAt (· = 0)) (fnd_mem (by kernel_rfl))).1 (by first | assumption | omega) (by first | assumption | omega) (by first | assumption | omega)) ?_
  refine WPQ_all tt_ok (by kernel_rfl) ?_
  refine WP_seq (WP_region (WPO_run tt_ok 18 (by kernel_rfl) ?_))
  refine CALL 21 [] (.s (.bool stowedL)) [((decide ((worstL b (modF n (b.loads.length : Int))) ≥ 0)) && ((decide ((worstL b (weighA b).1) > (worstL b (modF n (b.loads.length : Int))))) || (((worstL b (weighA b).1) == (worstL b (modF n (b.loads.length : Int)))) && (decide ((weighA b).1 ≤ (modF n (b.loads.length : Int)))))), true)] (by kernel_rfl) (goes_of (by kernel_rfl)) (by kernel_rfl) (by kernel_rfl) (fun hG nV w h => stowedL_calls   w (h.ents (1, .pf NobodyAt (· = 1)) (fnd_mem (by kernel_rfl))).1 (h.ents (2, .pf LanesAt (· = 0)) (fnd_mem (by kernel_rfl))).1 ) ?_
  refine WPO_all tt_ok (by kernel_rfl) ?_
  refine WP_ret ?_
  exact ⟨.s (.bool (((decide ((worstL b (modF n (b.loads.length : Int))) ≥ 0)) && ((decide ((worstL b (weighA b).1) > (worstL b (modF n (b.loads.length : Int))))) || (((worstL b (weighA b).1) == (worstL b (modF n (b.loads.length : Int)))) && (decide ((weighA b).1 ≤ (modF n (b.loads.length : Int))))))) && stowedL)), by kernel_rfl, fun nV w' h => ⟨by rw [show DeckWeighL b n = (((decide ((worstL b (modF n (b.loads.length : Int))) ≥ 0)) && ((decide ((worstL b (weighA b).1) > (worstL b (modF n (b.loads.length : Int))))) || (((worstL b (weighA b).1) == (worstL b (modF n (b.loads.length : Int)))) && (decide ((weighA b).1 ≤ (modF n (b.loads.length : Int))))))) && stowedL) from by unfold DeckWeighL; simp only [hc2, hR1, hc5, hc7, hc9, cond_true, cond_false]]; rfl, h.bel⟩⟩
end Go.Proofs.YthfnedbpmdkdjaaDoor.D
namespace Go.Proofs.YthfnedbpmdkdjaaDoor.D
open Go Go.RowKit Go.Proofs.YthfnedbpmdkdjaaDoor.Eng Go.Proofs.YthfnedbpmdkdjaaDoor.Cm
set_option linter.unusedVariables false
set_option linter.unusedSimpArgs false
set_option linter.unusedSectionVars false
def bookW (b : DBook) (k : Nat) (x : Int) : DBook := ⟨b.loads.set k ⟨⟨x, x⟩, (b.loads.getD k zLoad).lanes⟩, b.rule, b.most⟩
theorem bookW_valid {b : DBook} (hv : ValidD b) {k : Nat} (hk : k < b.loads.length) {x : Int} (hx : (b.loads.getD k zLoad).w.lo ≤ x ∧ x ≤ (b.loads.getD k zLoad).w.hi) : ValidD (bookW b k x) := by
  refine ⟨by unfold bookW; simp only [List.length_set]; exact hv.n, hv.rule, hv.most, fun y hy => ?_⟩
  rcases List.mem_or_eq_of_mem_set hy with h | h
  · exact hv.loads y h
  · have := hv.load hk
    subst h
    simp only; omega
def wideW (b : DBook) (k : Nat) : Nat := ((b.loads.getD k zLoad).w.hi - (b.loads.getD k zLoad).w.lo + 1).toNat
def W (b : DBook) (k : Nat) : Int := (List.range (wideW b k)).foldl (fun (v : Int) (i : Nat) => mn v ((mostD (bookW b k ((b.loads.getD k zLoad).w.lo + (i : Int)))).length : Int)) (b.loads.length : Int)
theorem W_nonneg (b : DBook) (k : Nat) : 0 ≤ W b k := by
  unfold W
  have : ∀ (l : List Nat) (v : Int), 0 ≤ v → 0 ≤ l.foldl (fun (v : Int) (i : Nat) => mn v ((mostD (bookW b k ((b.loads.getD k zLoad).w.lo + (i : Int)))).length : Int)) v := by
    intro l
    induction l with
    | nil => intro v h; exact h
    | cons x l ih => intro v h; exact ih _ (by simp only [mn_spec]; omega)
  exact this _ _ (by omega)
theorem worst_eq {b : DBook} (hv : ValidD b) {k : Nat} (hk : k < b.loads.length) : worstL b (k : Int) = W b k := by
  have hw := (hv.load hk).1
  unfold worstL W wideW
  rw [show ((k : Int)).toNat = k by omega]
  rw [loopR_foldl (c := worstL_c1 b (k : Int)) (b := worstL_b1 b (k : Int)) (fun (i : Nat) (v : Int) => mn v ((mostD (bookW b k ((b.loads.getD k zLoad).w.lo + (i : Int)))).length : Int)) (fun i v hi => by
    simp only [worstL_c1]
    rw [show ((k : Int)).toNat = k by omega, decide_eq_true]; omega) (fun i v hi => by
    simp only [worstL_b1]
    rw [show ((k : Int)).toNat = k by omega]
    have he : weighedL b (k : Int) ((b.loads.getD k zLoad).w.lo + (i : Int)) = bookW b k ((b.loads.getD k zLoad).w.lo + (i : Int)) := by
      unfold weighedL bookW
      rw [show ((k : Int)).toNat = k by omega]
      rfl
    rw [he, mostA_ok (bookW_valid hv hk (by omega))]
    rfl)]
theorem greatest_one (u v : Int) : greatestD u [v] = max u v := by
  unfold greatestD
  rw [loopR_foldl (c := greatestD_c1 u [v]) (b := greatestD_b1 u [v]) (fun k x => mx x ([v].getD k 0)) (fun k x hk => by simp only [greatestD_c1]; rw [decide_eq_true]; simp at hk; simp; omega) (fun k x hk => rfl)]
  show mx u v = _
  rw [mx_spec]
def openW (b : DBook) (k : Nat) : Prop := (b.loads.getD k zLoad).w.lo < (b.loads.getD k zLoad).w.hi
theorem weigh_spec {b : DBook} (hv : ValidD b) : (weighA b = (0, 4) ∧ ∀ j, j < b.loads.length → ¬ openW b j) ∨ ∃ j : Nat, j < b.loads.length ∧ openW b j ∧ weighA b = ((j : Int), 0) ∧ ∀ i, i < b.loads.length → openW b i → W b i ≤ W b j ∧ (i < j → W b i < W b j) := by
  have hn := hv.n
  unfold weighA
  rw [checkD_valid.2 hv]
  rcases loopR_keep (c := weighA_c1 b) (b := weighA_b1 b) (N := b.loads.length) (fun k v => (v = (-1, -1) ∧ ∀ j, j < k → ¬ openW b j) ∨ ∃ j : Nat, j < k ∧ openW b j ∧ v = (W b j, (j : Int)) ∧ ∀ i, i < k → openW b i → W b i ≤ W b j ∧ (i < j → W b i < W b j)) (fun _ => False) (fun k v hk _ => by obtain ⟨v1, v2⟩ := v; simp only [weighA_c1]; rw [decide_eq_true]; omega) (fun k v hk hp => by
    obtain ⟨v1, v2⟩ := v
    have hw := (hv.load hk).1
    have hw1 : IntKind.i64.wrap ((b.loads.getD k zLoad).w.hi - (b.loads.getD k zLoad).w.lo) = (b.loads.getD k zLoad).w.hi - (b.loads.getD k zLoad).w.lo := wrapI (by omega) (by omega)
    have hw2 : IntKind.i64.wrap ((b.loads.getD k zLoad).w.hi - (b.loads.getD k zLoad).w.lo + 1) = (b.loads.getD k zLoad).w.hi - (b.loads.getD k zLoad).w.lo + 1 := wrapI (by omega) (by omega)
    left
    simp only [weighA_b1]
    rw [hw1, hw2]
    by_cases ho : openW b k
    · have ho' : (b.loads.getD k zLoad).w.lo < (b.loads.getD k zLoad).w.hi := ho
      rw [show ((b.loads.getD k zLoad).w.hi - (b.loads.getD k zLoad).w.lo == 0) = false from beq_eq_false_iff_ne.2 (by omega), cond_false]
      have hin : loopR (weighA_c2 b k v1 v2) (weighA_b2 b k v1 v2) ((b.loads.getD k zLoad).w.hi - (b.loads.getD k zLoad).w.lo + 1).toNat 0 (b.loads.length : Int) = .brk (W b k) := by
        rw [loopR_foldl (c := weighA_c2 b k v1 v2) (b := weighA_b2 b k v1 v2) (fun (i : Nat) (v : Int) => mn v ((mostD (bookW b k ((b.loads.getD k zLoad).w.lo + (i : Int)))).length : Int)) (fun i v hi => by
          simp only [weighA_c2]
          rw [hw1, hw2, decide_eq_true]; omega) (fun i v hi => by
          simp only [weighA_b2, cloneL]
          rw [wrapI (x := (b.loads.getD k zLoad).w.lo + (i : Int)) (by omega) (by omega)]
          rfl)]
        rfl
      rw [hin]
      simp only
      rw [greatest_one]
      have hW := W_nonneg b k
      rcases hp with ⟨h1, h2⟩ | ⟨j, h1, h2, h3, h4⟩
      · cases h1
        rw [decide_eq_true (show max (W b k) (-1) > -1 by omega)]
        exact ⟨_, rfl, .inr ⟨k, by omega, ho, rfl, fun i hi hoi => by
          by_cases e : i = k
          · subst e; exact ⟨Int.le_refl _, fun h => by omega⟩
          · exact absurd hoi (h2 i (by omega))⟩⟩
      · cases h3
        by_cases hgt : W b k > W b j
        · rw [decide_eq_true (show max (W b k) (W b j) > W b j by omega)]
          exact ⟨_, rfl, .inr ⟨k, by omega, ho, rfl, fun i hi hoi => by
            by_cases e : i = k
            · subst e; exact ⟨Int.le_refl _, fun h => by omega⟩
            · have := h4 i (by omega) hoi; omega⟩⟩
        · rw [decide_eq_false (show ¬ max (W b k) (W b j) > W b j by omega)]
          exact ⟨_, rfl, .inr ⟨j, by omega, h2, rfl, fun i hi hoi => by
            by_cases e : i = k
            · subst e; omega
            · exact h4 i (by omega) hoi⟩⟩
    · have ho' : ¬ (b.loads.getD k zLoad).w.lo < (b.loads.getD k zLoad).w.hi := ho
      rw [show ((b.loads.getD k zLoad).w.hi - (b.loads.getD k zLoad).w.lo == 0) = true from beq_iff_eq.2 (by omega), cond_true]
      refine ⟨_, rfl, ?_⟩
      rcases hp with ⟨h1, h2⟩ | ⟨j, h1, h2, h3, h4⟩
      · exact .inl ⟨h1, fun i hi => by
          by_cases e : i = k
          · rw [e]; exact ho
          · exact h2 i (by omega)⟩
      · exact .inr ⟨j, by omega, h2, h3, fun i hi hoi => by
          by_cases e : i = k
          · subst e; exact absurd hoi ho
          · exact h4 i (by omega) hoi⟩) (-1, -1) (.inl ⟨rfl, fun j hj => by omega⟩) with ⟨v, e, hp⟩ | ⟨r, e, hf⟩
  · rw [e]
    rcases hp with ⟨h1, h2⟩ | ⟨j, h1, h2, h3, h4⟩
    · left; rw [h1]; exact ⟨rfl, h2⟩
    · right
      refine ⟨j, h1, h2, ?_, h4⟩
      rw [h3]
      simp only [bne_self_eq_false, cond_false]
      rw [decide_eq_false (show ¬ (j : Int) < 0 by omega)]; rfl
  · exact hf.elim
theorem weigh_bad {b : DBook} (h : checkD b = 30) : weighA b = (0, 30) := by
  unfold weighA
  rw [h]; rfl
theorem DeckWeigh_true (b : DBook) (n : Int) : DeckWeighL b n = true := by
  unfold DeckWeighL
  rw [stowedL_true]
  cases hs : soundL b with
  | false =>
    rw [weigh_bad (sound_not (by rw [hs]; rfl))]
    rfl
  | true =>
    have hv := sound_iff.1 hs
    have hn := hv.n
    have hmd := modF_in n (b.loads.length : Int) (by omega) (by omega)
    rw [loopR_or (c := DeckWeighL_c1 b n) (b := DeckWeighL_b1 b n) (fun k => decide ((b.loads.getD k zLoad).w.lo < (b.loads.getD k zLoad).w.hi)) (fun k v hk => by simp only [DeckWeighL_c1]; rw [decide_eq_true]; omega) (fun k v hk => rfl)]
    simp only [Bool.false_or, Bool.not_true, cond_false]
    obtain ⟨o, ho⟩ : ∃ o : Nat, modF n (b.loads.length : Int) = (o : Int) := ⟨(modF n (b.loads.length : Int)).toNat, by omega⟩
    rw [ho] at hmd ⊢
    rw [show ((o : Int)).toNat = o by omega]
    rcases weigh_spec hv with ⟨e, hno⟩ | ⟨j, hj, hoj, e, hbest⟩
    · have hany : ((List.range b.loads.length).any fun k => decide ((b.loads.getD k zLoad).w.lo < (b.loads.getD k zLoad).w.hi)) = false := by
        rw [List.any_eq_false]
        intro k hk
        rw [decide_eq_true_eq]
        exact hno k (List.mem_range.1 hk)
      rw [e, hany]; rfl
    · have hany : ((List.range b.loads.length).any fun k => decide ((b.loads.getD k zLoad).w.lo < (b.loads.getD k zLoad).w.hi)) = true := by
        rw [List.any_eq_true]
        exact ⟨j, List.mem_range.2 hj, decide_eq_true hoj⟩
      rw [e, hany]
      have hoj' : (b.loads.getD j zLoad).w.lo < (b.loads.getD j zLoad).w.hi := hoj
      simp only [beq_self_eq_true, bne_self_eq_false, Bool.not_true, Bool.false_and, Bool.or_self, cond_false, Bool.false_or]
      cases heq : ((b.loads.getD o zLoad).w.lo == (b.loads.getD o zLoad).w.hi) with
      | true => rfl
      | false =>
        have hw := (hv.load (k := o) (by omega)).1
        have hoo : openW b o := by
          show (b.loads.getD o zLoad).w.lo < (b.loads.getD o zLoad).w.hi
          have := beq_eq_false_iff_ne.1 heq; omega
        have hin : insideF (j : Int) 0 (IntKind.i64.wrap ((b.loads.length : Int) - 1)) = true := by
          rw [wrapI (by omega) (by omega)]
          simp only [insideF, Bool.and_eq_true, decide_eq_true_eq]; omega
        rw [hin, show ((j : Int)).toNat = j by omega, show ((b.loads.getD j zLoad).w.lo == (b.loads.getD j zLoad).w.hi) = false from beq_eq_false_iff_ne.2 (by omega), worst_eq hv hj, worst_eq hv (show o < b.loads.length by omega)]
        have hb := hbest o (by omega) hoo
        have hW := W_nonneg b o
        rw [decide_eq_true (show W b o ≥ 0 from hW)]
        by_cases hgt : W b j > W b o
        · rw [decide_eq_true hgt]; rfl
        · rw [decide_eq_false hgt, show (W b j == W b o) = true from beq_iff_eq.2 (by omega), decide_eq_true (show (j : Int) ≤ (o : Int) by omega)]; rfl
end Go.Proofs.YthfnedbpmdkdjaaDoor.D
namespace Go.Proofs.YthfnedbpmdkdjaaDoor.D
open Go Go.ChangeShapes Go.WideShapes Go.RowKit Go.Proofs.YthfnedbpmdkdjaaDoor.Eng Go.Proofs.YthfnedbpmdkdjaaDoor.Cm
set_option linter.unusedVariables false
set_option linter.unusedSimpArgs false
set_option maxRecDepth 100000
namespace DeckWeigh
theorem door_met_deckWeigh (os : Os) (args : Array Value) : laidMetH Tryd.prog Rows.deckWeighRow.laid ((World.doorLaid Tryd.prog 30 os).forCall (fun _ _ => 0) ⟨#[], args, []⟩).memory :=
  laidMetH_of_parts3 (fuel := 8) (laidMet_of_run' 8 (by kernel_rfl) (by kernel_rfl)) (by kernel_rfl) (by kernel_rfl)
theorem contract (H : Type) (enc : TypeId × Value → H) (W : World) (base : Nat) (args : Array Value) (ds gs : List (DataW H)) (before : List MemPlace)
    (hval : ∀ (j : Nat) t v, Tryd.f14.params[j]? = some t → args[j]? = some v → Value.okWide Tryd.prog W .any base t v)
    (hW : DataW.Whole enc Tryd.prog Tryd.f14.params.toList Rows.deckWeighSpec.vars false W args.toList ds gs before)
    (hsz0 : (DataW.weightsEach Tryd.prog (Tryd.f14.params.toList ++ []) (ds ++ gs)).all (fun x => decide (x ≤ reachBytes)) = true) (hL : laidMetH Tryd.prog Rows.deckWeighRow.laid W) (hS : W.ShapedOpen Tryd.prog) :
    Calls Tryd.prog 14 args W fun e W' => ∃ v, e = .returned v ∧ Rows.deckWeighSpec.post enc Tryd.prog Tryd.f14 false true false false W args v W' := by
  have hW' := hW
  obtain ⟨p, q, hA0, hV, rfl, hfz, hnd⟩ := hW
  have hA : DataW.TrodAll enc Tryd.prog W 0 (fun _ => true) true Tryd.f14.params.toList args.toList ds p := hA0
  rw [Tryd.params14] at hA hval hsz0
  clear hA0
  obtain ⟨v0, vs0, d0, ds0, p0, q0, hargs, rfl, rfl, h0, r0⟩ := trodAll_cons hA
  obtain ⟨v1, vs1, d1, ds1, p1, q1, rfl, rfl, rfl, h1, r1⟩ := trodAll_cons r0
  obtain ⟨rfl, rfl, rfl⟩ := trodAll_nil r1
  obtain rfl : args = #[v0, v1] := by apply Array.ext'; rw [hargs]
  obtain ⟨rfl, rfl⟩ := trodVars_none hV
  have hsz : (DataW.weightsEach Tryd.prog [24, 3] [d0, d1]).all (fun x => decide (x ≤ reachBytes)) = true := by simpa using hsz0
  have hb0 : Wb Tryd.prog 24 d0 := Bd_each hsz (j := 0) rfl rfl
  obtain ⟨c0, rfl, ⟨g0_0, x0, y0, q0_0, q0_1, q0_2, _⟩⟩ := arg_agg Tryd.underlying24 (hval 0 24 v0 rfl rfl) h0 hb0 opn24
  rw [agg_of y0] at *
  obtain ⟨x1, rfl, q1_0⟩ := arg_int Tryd.underlying3 (hval 1 3 v1 rfl rfl) h1
  have ha := deck_of hS hL
  have hc := DeckWeighL_calls g0_0 x0 x1 W q0_0.1 ha.1 ha.2
  refine hc.mono fun e W' ⟨he, hb⟩ => ?_
  refine ⟨.bool true, he.trans (by rw [DeckWeigh_true x0 x1]), law_post laidOut (fun u hu => ?_) hW' rfl (by kernel_rfl) Tryd.underlying4 rfl rfl rfl hb⟩
  have hall : ([24, 3] : List TypeId).all (fun u => Tryd.prog.readableRec u && decide (u < Tryd.prog.types.size)) = true := by kernel_rfl
  have hu' : u ∈ ([24, 3] : List TypeId) := hu
  have := List.all_eq_true.1 hall u hu'
  simp only [Bool.and_eq_true, decide_eq_true_eq] at this
  exact this
theorem reads (os : Os) {H : Type} (enc : TypeId × Value → H) : ∃ places, DataW.whole enc Tryd.prog ((World.doorLaid Tryd.prog 30 os).forCall (fun _ _ => 0) ⟨#[], #[.agg #[.slice none 0 0, .int .i64 0, .int .i64 0], .int .i64 0], []⟩).memory Tryd.f14.params.toList Rows.deckWeighSpec.vars false (#[.agg #[.slice none 0 0, .int .i64 0, .int .i64 0], .int .i64 0] : Array Value).toList 8 = some ([.agg [.nil, .lit (.int .i64 0), .lit (.int .i64 0)], .lit (.int .i64 0)], [], places) :=
  ⟨[], by kernel_rfl⟩
set_option maxRecDepth 100000 in
theorem lifted (os : Os) (started : os.Started) (H : Type) (enc : TypeId × Value → H) (F : Stop.Interp) :
    ReturnsInHanded {} Tryd.checked os 14 .any ((OpenSpec.ofChange Rows.deckWeighSpec).preRow enc Tryd.prog Tryd.f14 Rows.deckWeighRow.domain false Rows.deckWeighRow.laid) (((OpenSpec.ofChange Rows.deckWeighSpec).at F).post enc Tryd.prog Tryd.f14 false true false false) := by
  obtain ⟨places, hx⟩ := reads os enc
  refine returnsInHanded_of_row (C := Tryd.checked) (s := OpenSpec.ofChange Rows.deckWeighSpec) own started (by kernel_rfl) Tryd.func14
    (witness_row_atRef (enc := enc) (C := Tryd.checked) false (World.doorLaid Tryd.prog 30 os) #[.agg #[.slice none 0 0, .int .i64 0, .int .i64 0], .int .i64 0] rfl (by kernel_rfl) (by kernel_rfl) (by kernel_rfl)
      (OpenSpec.preRow_of_cond 8 hx (by kernel_rfl) (fun k hk => by cases hk) (by kernel_rfl) (door_met_deckWeigh os _))) ?_
  intro W base args ds gs before hval hW _ hcond hsz hL hS _
  exact contract H enc W base args ds gs before hval hW hsz hL hS
theorem said : Rows.DeckWeighSaid :=
  OpenClaim.holds_of_cond 14 Tryd.f14 rfl rfl rfl rfl rfl rfl rfl ⟨rfl, rfl, rfl, rfl, rfl⟩ rfl rfl rfl rfl rfl (by kernel_rfl) Tryd.func14 (by kernel_rfl)
    (of_decide_eq_true (by kernel_rfl)) (by unfold Func.isWrapper; first | (rw [if_pos (by decide +kernel)]; kernel_rfl) | (rw [if_neg (by decide +kernel)]; exact ⟨rfl, rfl⟩))
    (fun os started H enc _ F => by rw [OpenClaim.pre_eq_preRow]; exact lifted os started H enc F)
theorem plain (f : FuncId) (fn : Func) (hf : Tryd.pinned.checked.prog.funcNamed "prow/prowlaw03.DeckWeigh" = some f) (hfn : Tryd.pinned.checked.prog.funcs[f]? = some fn) :
    false = Tryd.pinned.checked.prog.looks [] ∧ ∀ (j : Nat) t, fn.params[j]? = some t → Tryd.pinned.checked.prog.wantsStandIn t = false := by
  obtain rfl : f = 14 := Option.some.inj ((show Tryd.prog.funcNamed "prow/prowlaw03.DeckWeigh" = some 14 by kernel_rfl).symm.trans hf) |>.symm
  obtain rfl : fn = Tryd.f14 := (Option.some.inj (Tryd.func14.symm.trans hfn)).symm
  refine ⟨by kernel_rfl, fun j t ht => ?_⟩
  rw [Tryd.params14] at ht
  have hm : t ∈ ([24, 3] : List TypeId) := by simpa using Array.mem_of_getElem? ht
  have hall : (([24, 3] : List TypeId).all fun u => !Tryd.prog.wantsStandIn u) = true := by kernel_rfl
  exact (show Tryd.prog.wantsStandIn t = false by simpa using List.all_eq_true.1 hall t hm)
theorem card : Rows.DeckWeighCardSaid :=
  Claim7.holds_tied_plain_at .later [] _ _ _ _ said (fun _ h => by cases h) (by kernel_rfl) (fun _ h => by cases h) deckWeigh_row_tie rfl ⟨rfl, rfl⟩ (by kernel_rfl) rfl plain (by kernel_rfl)
end DeckWeigh
end Go.Proofs.YthfnedbpmdkdjaaDoor.D
theorem Go.Proofs.YthfnedbpmdkdjaaDoor.deckWeigh_holds : Go.Proofs.YthfnedbpmdkdjaaDoor.Rows.DeckWeighCardSaid := Go.Proofs.YthfnedbpmdkdjaaDoor.D.DeckWeigh.card
