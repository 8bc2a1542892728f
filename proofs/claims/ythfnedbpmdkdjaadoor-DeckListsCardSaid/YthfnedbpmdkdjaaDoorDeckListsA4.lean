/-
  DeckLists: for every book and every list of places the law returns true, and leaves them as they were. Conditions: none but the row's own.
-/
import Derived.Test.YthfnedbpmdkdjaaDoorDeckListsA3
import Derived.ArgAppend
import Derived.Below
import Derived.Carry
import Derived.ChangeKeysEq
import Derived.ControlIn
import Derived.Deep.DeepHandedRow
import Derived.Deep.DeepWitnessRowRef
import Derived.Deep.Draws
import Derived.Deep.Quiet
import Derived.Deep.Slices
import Derived.KernelRfl
import Derived.LaidMore
import Derived.Laws.AppendOwn
import Derived.Laws.Cells
import Derived.Laws.CopyRow
import Derived.Laws.IdiomCopy
import Derived.Laws.IdiomRangeMap
import Derived.Laws.OwnMore
import Derived.Laws.Rows
import Derived.MapKept
import Derived.Maps.AppendAt
import Derived.OpenShut
import Derived.OrdersHeld
import Derived.OrdersIn
import Derived.ProofKit
import Derived.RangeFuncLeaves
import Derived.RangeFuncNested
import Derived.RangeFuncOwn
import Derived.SevenTiedAt
import Derived.SizedLaws
import Derived.Stop.Joined
import Derived.Test.YthfnedbpmdkdjaaDoorCards
import Derived.Test.YthfnedbpmdkdjaaDoorProg
import Derived.Test.YthfnedbpmdkdjaaDoorRows
import Derived.Test.YthfnedbpmdkdjaaDoorTie
import Derived.WalkKit
import Derived.WideKeyRuns
namespace Go.Proofs.YthfnedbpmdkdjaaDoor.D
open Go Go.RowKit Go.Proofs.YthfnedbpmdkdjaaDoor.Eng Go.Proofs.YthfnedbpmdkdjaaDoor.Cm
set_option linter.unusedVariables false
set_option linter.unusedSimpArgs false
set_option linter.unusedSectionVars false
def isStowR_c1 (b : DBook) (on : List Place) (k1 : Nat) : (List Int) → Bool := fun v1_1 => decide ((k1 : Int) < (on.length : Int))
def isStowR_b1 (b : DBook) (on : List Place) (k1 : Nat) : (List Int) → Bd (List Int) Bool := fun v1_1 => (bif (((!(isLoadR b (on.getD k1 zPlace).load)) || (!(insideF (on.getD k1 zPlace).lane 0 2))) || (!(memberF (b.loads.getD (on.getD k1 zPlace).load.toNat zLoad).lanes (on.getD k1 zPlace).lane))) || (decide ((atF v1_1 (on.getD k1 zPlace).load) ≥ 0)) then .ret false else .go (grownF v1_1 (on.getD k1 zPlace).load))
def isStowR (b : DBook) (on : List Place) : Bool :=
  (match loopR (isStowR_c1 b on) (isStowR_b1 b on) on.length 0 ([] : List Int) with | .brk u1_0 => true | .ret r => r)
theorem isStowR_calls (g0 g1 : Value) (b : DBook) (on : List Place) (w : World) (r0 : Reads w g0 3 b.loads encLoad zLoad) (r1 : Reads w g1 2 on encPlace zPlace) (hlo : on.length * 16 ≤ 140737488355328) : Calls Tryd.prog 107 #[.agg #[g0, iv b.rule, iv b.most], g1] w fun e w' => e = .returned (.bool (isStowR b on)) ∧ Below w.heap.size w w' := by
  refine calls_of_WP (cx := cx0 w (vn [g0, g1]) 2) (n := vn [g0, g1]) (vs := [.g [.ref 0, .int .i64 b.rule, .int .i64 b.most], .s (.ref 1)]) (hp := [(0, .sl .ro 61 3 b.loads encLoad zLoad), (1, .sl .ro 65 2 on encPlace zPlace)]) (nx := 2) tt_ok Tryd.func107 rfl rfl rfl (by kernel_rfl) (HSat_args (vn_one (by simp [r0.one, r1.one])) (Nat.le_refl _) ⟨⟨⟨fun _ => rfl, by decide, r0⟩, (Nat.le_of_ble_eq_true rfl)⟩, ⟨⟨fun _ => rfl, by decide, r1⟩, (Nat.le_of_ble_eq_true rfl)⟩, trivial⟩) (vsOk (by kernel_rfl)) ?_
  have hl0 := Reads.len r0
  have hl1 := Reads.len r1
  have hwl : IntKind.i64.wrap ((b.loads.length : Int) - 1) = (b.loads.length : Int) - 1 := wrapI (by omega) (by omega)
  refine WP_seq (WP_region (WPO_all tt_ok (by kernel_rfl) ?_))
  refine WP_seq (WP_region (LIT tt_ok (by kernel_rfl) ?_))
  refine LITSL 3 3 0 1 [] ([] : List Int) encI 0 (by kernel_rfl) rfl (fun _ => rfl) (fun n => rfl) ?_
  refine WPO_all tt_ok (by kernel_rfl) ?_
  refine WP_seq (WP_seq (WP_region (WPO_all tt_ok (by kernel_rfl) ?_)))
  refine WP_loopA (ρ := Bool) (isStowR_c1 b on) (isStowR_b1 b on) on.length ([] : List Int) (fun k : Nat => (k : Int)) (fun (ci : Int) (zz : (List Int)) => ⟨54, [(6, [], .s (.int .i64 ci)), (5, [], .s (.ref 4)), (2, [], .s (.p 2 0)), (1, [], .s (.ref 1))], [(4, .sl .own 3 1 zz encI 0), (2, .box 24 [.ref 0, .int .i64 b.rule, .int .i64 b.most]), (0, .sl .ro 61 3 b.loads encLoad zLoad), (1, .sl .ro 65 2 on encPlace zPlace)], 5, []⟩) (fun zz : (List Int) => ⟨54, [], [(4, .sl .own 3 1 zz encI 0), (2, .box 24 [.ref 0, .int .i64 b.rule, .int .i64 b.most]), (0, .sl .ro 61 3 b.loads encLoad zLoad), (1, .sl .ro 65 2 on encPlace zPlace)], 5, []⟩) (fun (k1 : Nat) (zz : (List Int)) => zz.length ≤ k1) (by simp) ⟨0, rfl, Le_ren [(4, 3)] ⟨by kernel_rfl, by kernel_rfl, by kernel_rfl, by kernel_rfl, trivial⟩ ⟨by kernel_rfl, rfl, by kernel_rfl, by kernel_rfl, rfl, by kernel_rfl, by kernel_rfl, rfl, by kernel_rfl, by kernel_rfl, rfl, by kernel_rfl, trivial⟩ (by kernel_rfl) (by kernel_rfl) (rnm_id (m := 2) (by kernel_rfl)) (by show 2 ≤ 5; decide) (by kernel_rfl) (by kernel_rfl)⟩ ?_ ?_
  · intro k1 v1_1 hn1 hp1 hi1 Q1 hq1 ho1
    replace hp1 : v1_1.length ≤ k1 := hp1
    refine WP_seq (WP_seq (WP_region (WPO_all tt_ok (by kernel_rfl) ?_)))
    refine WP_cond (decide ((k1 : Int) < (on.length : Int))) (by kernel_rfl) (fun hc1 => ?_) (fun hc1 => ?_)
    rotate_left
    · refine WP_exit ?_
      show Q1 (.exit 0) _
      exact LA_exit hq1 v1_1 (loopR_end hi1 hc1) ⟨k1, hn1, hp1⟩ (Le_sel (ts := []) (ids := [4, 2, 0, 1]) (nx := 5) (by kernel_rfl))
    have hc1' := of_decide_eq_true hc1
    have hk1 : k1 < on.length := by omega
    refine WP_skip ?_
    refine WP_seq (WP_block ?_)
    refine WP_seq (WP_region (WPO_run tt_ok 2 (by kernel_rfl) ?_))
    refine IX tt_ok (k1 : Int) on.length [] (by kernel_rfl) (fun hG => (by first | exact ⟨by omega, by omega⟩ | (simp only [AllEq, and_true, Bool.or_eq_false_iff, Bool.and_eq_true, Bool.not_eq_false', Bool.not_eq_true', isLoadR, insideF, decide_eq_true_eq, ge_iff_le, hwl] at hG; constructor <;> omega))) ?_
    refine WPO_all tt_ok (by kernel_rfl) ?_
    refine WP_seq (WP_seq (WP_draw (by kernel_rfl) (by kernel_rfl) ?_))
    refine WPQ_run tt_ok 3 (by kernel_rfl) ?_
    refine QCALL 123 [.g [.ref 0, .int .i64 b.rule, .int .i64 b.most], .s (.int .i64 (on.getD k1 zPlace).load)] (.s (.bool (isLoadR b (on.getD k1 zPlace).load))) [] (by kernel_rfl) (goes_of (by kernel_rfl)) (by kernel_rfl) (by kernel_rfl) (fun hG nV w h => isLoadR_calls (nV 0) b (on.getD k1 zPlace).load w (h.reads (id := 0) (kd := .ro) (e := 61) (by kernel_rfl)) ) ?_
    refine WPQ_run tt_ok 4 (by kernel_rfl) ?_
    refine QCALL 34 [.s (.int .i64 (on.getD k1 zPlace).lane), .s (.int .i64 0), .s (.int .i64 2)] (.s (.bool (insideF (on.getD k1 zPlace).lane 0 2))) [(!(isLoadR b (on.getD k1 zPlace).load), false)] (by kernel_rfl) (goes_of (by kernel_rfl)) (by kernel_rfl) (by kernel_rfl) (fun hG nV w h => insideF_calls  (on.getD k1 zPlace).lane 0 2 w  ) ?_
    refine WPQ_run tt_ok 7 (by kernel_rfl) ?_
    refine QIX tt_ok (on.getD k1 zPlace).load b.loads.length [((!(isLoadR b (on.getD k1 zPlace).load)) || (!(insideF (on.getD k1 zPlace).lane 0 2)), false)] (by kernel_rfl) (fun hG => (by first | exact ⟨by omega, by omega⟩ | (simp only [AllEq, and_true, Bool.or_eq_false_iff, Bool.and_eq_true, Bool.not_eq_false', Bool.not_eq_true', isLoadR, insideF, decide_eq_true_eq, ge_iff_le, hwl] at hG; constructor <;> omega))) ?_
    refine WPQ_run tt_ok 4 (by kernel_rfl) ?_
    refine QCALL 92 [.s (.int .i64 (b.loads.getD (on.getD k1 zPlace).load.toNat zLoad).lanes), .s (.int .i64 (on.getD k1 zPlace).lane)] (.s (.bool (memberF (b.loads.getD (on.getD k1 zPlace).load.toNat zLoad).lanes (on.getD k1 zPlace).lane))) [((!(isLoadR b (on.getD k1 zPlace).load)) || (!(insideF (on.getD k1 zPlace).lane 0 2)), false)] (by kernel_rfl) (goes_of (by kernel_rfl)) (by kernel_rfl) (by kernel_rfl) (fun hG nV w h => memberF_calls  (b.loads.getD (on.getD k1 zPlace).load.toNat zLoad).lanes (on.getD k1 zPlace).lane w  (by first | assumption | omega | (simp only [AllEq, and_true, Bool.or_eq_false_iff, Bool.and_eq_true, Bool.not_eq_false', Bool.not_eq_true', isLoadR, insideF, decide_eq_true_eq, ge_iff_le, hwl] at hG; omega))) ?_
    refine WPQ_run tt_ok 6 (by kernel_rfl) ?_
    refine QCALL 56 [.s (.ref 4), .s (.int .i64 (on.getD k1 zPlace).load)] (.s (.int .i64 (atF v1_1 (on.getD k1 zPlace).load))) [(((!(isLoadR b (on.getD k1 zPlace).load)) || (!(insideF (on.getD k1 zPlace).lane 0 2))) || (!(memberF (b.loads.getD (on.getD k1 zPlace).load.toNat zLoad).lanes (on.getD k1 zPlace).lane)), false)] (by kernel_rfl) (goes_of (by kernel_rfl)) (by kernel_rfl) (by kernel_rfl) (fun hG nV w h => atF_calls (nV 4) v1_1 (on.getD k1 zPlace).load w (h.reads (id := 4) (kd := .own) (e := 3) (by kernel_rfl)) ) ?_
    refine WPQ_all tt_ok (by kernel_rfl) ?_
    refine WP_cond ((((!(isLoadR b (on.getD k1 zPlace).load)) || (!(insideF (on.getD k1 zPlace).lane 0 2))) || (!(memberF (b.loads.getD (on.getD k1 zPlace).load.toNat zLoad).lanes (on.getD k1 zPlace).lane))) || (decide ((atF v1_1 (on.getD k1 zPlace).load) ≥ 0))) (by kernel_rfl) (fun hc3 => ?_) (fun hc3 => ?_)
    · have hc3' := hc3; try simp only [Bool.and_eq_true, Bool.or_eq_true, Bool.and_eq_false_iff, Bool.or_eq_false_iff, Bool.not_eq_true', Bool.not_eq_false', decide_eq_true_eq, decide_eq_false_iff_not, beq_iff_eq, beq_eq_false_iff_ne, bne_iff_ne, bne_eq_false_iff_eq, ne_eq] at hc3'
      refine WP_seq (WP_region (WPO_all tt_ok (by kernel_rfl) ?_))
      refine WP_ret ?_
      show Q1 .ret _
      refine LA_ret hq1 ?_
      have he4 := loopR_ret (r := false) hi1 hk1 hc1 (by unfold isStowR_b1; simp only [hc3, cond_true, cond_false])
      exact ⟨.s (.bool false), by kernel_rfl, fun nV w' h => ⟨by rw [show isStowR b on = false from by unfold isStowR; simp only [he4, cond_true, cond_false]]; rfl, h.bel⟩⟩
    have hc3' := hc3; try simp only [Bool.and_eq_true, Bool.or_eq_true, Bool.and_eq_false_iff, Bool.or_eq_false_iff, Bool.not_eq_true', Bool.not_eq_false', decide_eq_true_eq, decide_eq_false_iff_not, beq_iff_eq, beq_eq_false_iff_ne, bne_iff_ne, bne_eq_false_iff_eq, ne_eq] at hc3'
    refine WP_skip ?_
    refine WP_region (WPO_run tt_ok 3 (by kernel_rfl) ?_)
    refine CALLO 124 [.s (.ref 4), .s (.int .i64 (on.getD k1 zPlace).load)] (.s (.ref 6)) 3 1 (grownF v1_1 (on.getD k1 zPlace).load) encI 0 6 (by kernel_rfl) (by kernel_rfl) (goes_of (by kernel_rfl)) (by kernel_rfl) (by kernel_rfl) (fun _ => rfl) ((fun nV w h => grownF_calls (nV 4) v1_1 (on.getD k1 zPlace).load w (h.reads (id := 4) (kd := .own) (e := 3) (by kernel_rfl)) (by first | assumption | omega | (simp only [AllEq, and_true, Bool.or_eq_false_iff, Bool.and_eq_true, Bool.not_eq_false', Bool.not_eq_true', isLoadR, insideF, decide_eq_true_eq, ge_iff_le, hwl] at hG; omega)))) ?_
    refine WPO_all tt_ok (by kernel_rfl) ?_
    refine WP_region (WPO_all tt_ok (by kernel_rfl) ?_)
    show Q1 .normal _
    exact LA_go hq1 (ci := IntKind.i64.wrap ((k1 : Int) + 1)) (grownF v1_1 (on.getD k1 zPlace).load) hk1 (by show _ = ((k1 + 1 : Nat) : Int); rw [wrapI (by omega) (by omega)]; omega) (loopR_go hi1 hk1 hc1 (by unfold isStowR_b1; simp only [hc3, cond_true, cond_false])) (by rw [grown_len _ (by omega)]; omega) (Le_ren [(4, 6)] ⟨by kernel_rfl, by kernel_rfl, by kernel_rfl, by kernel_rfl, trivial⟩ ⟨by kernel_rfl, rfl, by kernel_rfl, by kernel_rfl, rfl, by kernel_rfl, by kernel_rfl, rfl, by kernel_rfl, by kernel_rfl, rfl, by kernel_rfl, trivial⟩ (by kernel_rfl) (by kernel_rfl) (rnm_id (m := 2) (by kernel_rfl)) (by show 2 ≤ 5; decide) (by kernel_rfl) (by kernel_rfl))
  intro u1_0 hR1 hP1 s' hl
  obtain ⟨kP1, hkP1, hpP1⟩ := hP1
  replace hpP1 : u1_0.length ≤ kP1 := hpP1
  refine WP_le hl ?_
  clear hl s'
  refine WP_seq (WP_region (WPO_all tt_ok (by kernel_rfl) ?_))
  refine WP_ret ?_
  exact ⟨.s (.bool true), by kernel_rfl, fun nV w' h => ⟨by rw [show isStowR b on = true from by unfold isStowR; simp only [hR1, cond_true, cond_false]]; rfl, h.bel⟩⟩
def listR_c1 (b : DBook) (on : List Place) (k1 : Nat) : (Int × Int) → Bool := fun (v1_1, v1_2) => decide ((k1 : Int) < (on.length : Int))
def listR_b1 (b : DBook) (on : List Place) (k1 : Nat) : (Int × Int) → Bd (Int × Int) Span := fun (v1_1, v1_2) => .go (bif ((on.getD k1 zPlace).lane == 2) then (addedF (⟨bif ((on.getD k1 zPlace).lane == 0) then (addedF (⟨v1_1, v1_2⟩ : Span) (b.loads.getD (on.getD k1 zPlace).load.toNat zLoad).w).lo else v1_1, bif ((on.getD k1 zPlace).lane == 0) then (addedF (⟨v1_1, v1_2⟩ : Span) (b.loads.getD (on.getD k1 zPlace).load.toNat zLoad).w).hi else v1_2⟩ : Span) (rangeF (IntKind.i64.wrap (0 - (b.loads.getD (on.getD k1 zPlace).load.toNat zLoad).w.hi)) (IntKind.i64.wrap (0 - (b.loads.getD (on.getD k1 zPlace).load.toNat zLoad).w.lo)))).lo else bif ((on.getD k1 zPlace).lane == 0) then (addedF (⟨v1_1, v1_2⟩ : Span) (b.loads.getD (on.getD k1 zPlace).load.toNat zLoad).w).lo else v1_1, bif ((on.getD k1 zPlace).lane == 2) then (addedF (⟨bif ((on.getD k1 zPlace).lane == 0) then (addedF (⟨v1_1, v1_2⟩ : Span) (b.loads.getD (on.getD k1 zPlace).load.toNat zLoad).w).lo else v1_1, bif ((on.getD k1 zPlace).lane == 0) then (addedF (⟨v1_1, v1_2⟩ : Span) (b.loads.getD (on.getD k1 zPlace).load.toNat zLoad).w).hi else v1_2⟩ : Span) (rangeF (IntKind.i64.wrap (0 - (b.loads.getD (on.getD k1 zPlace).load.toNat zLoad).w.hi)) (IntKind.i64.wrap (0 - (b.loads.getD (on.getD k1 zPlace).load.toNat zLoad).w.lo)))).hi else bif ((on.getD k1 zPlace).lane == 0) then (addedF (⟨v1_1, v1_2⟩ : Span) (b.loads.getD (on.getD k1 zPlace).load.toNat zLoad).w).hi else v1_2)
def listR (b : DBook) (on : List Place) : Span :=
  (match loopR (listR_c1 b on) (listR_b1 b on) on.length 0 ((pointF 0).lo, (pointF 0).hi) with | .brk (u1_0, u1_1) => (⟨u1_0, u1_1⟩ : Span) | .ret r => r)
theorem listR_calls (g0 g1 : Value) (b : DBook) (on : List Place) (w : World) (r0 : Reads w g0 3 b.loads encLoad zLoad) (r1 : Reads w g1 2 on encPlace zPlace) (hon : ∀ x ∈ on, 0 ≤ x.load ∧ x.load < b.loads.length) : Calls Tryd.prog 108 #[.agg #[g0, iv b.rule, iv b.most], g1] w fun e w' => e = .returned (.agg #[iv (listR b on).lo, iv (listR b on).hi]) ∧ Below w.heap.size w w' := by
  refine calls_of_WP (cx := cx0 w (vn [g0, g1]) 2) (n := vn [g0, g1]) (vs := [.g [.ref 0, .int .i64 b.rule, .int .i64 b.most], .s (.ref 1)]) (hp := [(0, .sl .ro 61 3 b.loads encLoad zLoad), (1, .sl .ro 65 2 on encPlace zPlace)]) (nx := 2) tt_ok Tryd.func108 rfl rfl rfl (by kernel_rfl) (HSat_args (vn_one (by simp [r0.one, r1.one])) (Nat.le_refl _) ⟨⟨⟨fun _ => rfl, by decide, r0⟩, (Nat.le_of_ble_eq_true rfl)⟩, ⟨⟨fun _ => rfl, by decide, r1⟩, (Nat.le_of_ble_eq_true rfl)⟩, trivial⟩) (vsOk (by kernel_rfl)) ?_
  have hl0 := Reads.len r0
  have hl1 := Reads.len r1
  refine WP_seq (WP_region (WPO_all tt_ok (by kernel_rfl) ?_))
  refine WP_seq (WP_region (CALL 65 [.s (.int .i64 0)] (.g [.int .i64 (pointF 0).lo, .int .i64 (pointF 0).hi]) [] (by kernel_rfl) (goes_of (by kernel_rfl)) (by kernel_rfl) (by kernel_rfl) (fun hG nV w h => pointF_calls  0 w  ) ?_))
  refine WPO_all tt_ok (by kernel_rfl) ?_
  refine WP_seq (WP_seq (WP_region (WPO_all tt_ok (by kernel_rfl) ?_)))
  refine WP_loopA (ρ := Span) (listR_c1 b on) (listR_b1 b on) on.length ((pointF 0).lo, (pointF 0).hi) (fun k : Nat => (k : Int)) (fun (ci : Int) (zz : Int × Int) => ⟨50, [(6, [], .s (.int .i64 ci)), (5, [], .s (.p 4 0)), (4, [], .s (.p 3 0)), (2, [], .s (.p 2 0)), (1, [], .s (.ref 1))], [(4, .box 43 [.int .i64 zz.1, .int .i64 zz.2]), (3, .box 43 [.int .i64 0, .int .i64 0]), (2, .box 24 [.ref 0, .int .i64 b.rule, .int .i64 b.most]), (0, .sl .ro 61 3 b.loads encLoad zLoad), (1, .sl .ro 65 2 on encPlace zPlace)], 5, []⟩) (fun zz : Int × Int => ⟨50, [(5, [], .s (.p 4 0)), (4, [], .s (.p 3 0))], [(4, .box 43 [.int .i64 zz.1, .int .i64 zz.2]), (3, .box 43 [.int .i64 0, .int .i64 0]), (2, .box 24 [.ref 0, .int .i64 b.rule, .int .i64 b.most]), (0, .sl .ro 61 3 b.loads encLoad zLoad), (1, .sl .ro 65 2 on encPlace zPlace)], 5, []⟩) (fun k zz => True) trivial ⟨0, rfl, Le_sel (ts := [6, 5, 4, 2, 1]) (ids := [4, 3, 2, 0, 1]) (nx := 5) (by kernel_rfl)⟩ ?_ ?_
  · intro k1 zz hn1 hp1 hi1 Q1 hq1 ho1
    obtain ⟨v1_1, v1_2⟩ := zz
    refine WP_seq (WP_seq (WP_region (WPO_all tt_ok (by kernel_rfl) ?_)))
    refine WP_cond (decide ((k1 : Int) < (on.length : Int))) (by kernel_rfl) (fun hc1 => ?_) (fun hc1 => ?_)
    rotate_left
    · refine WP_exit ?_
      show Q1 (.exit 0) _
      exact LA_exit hq1 (v1_1, v1_2) (loopR_end hi1 hc1) ⟨k1, hn1, hp1⟩ (Le_sel (ts := [5, 4]) (ids := [4, 3, 2, 0, 1]) (nx := 5) (by kernel_rfl))
    have hc1' := of_decide_eq_true hc1
    have hk1 : k1 < on.length := by omega
    have hox := hon _ (getD_mem (z := zPlace) hk1)
    refine WP_skip ?_
    refine WP_seq (WP_block ?_)
    refine WP_seq (WP_toX (σ := Unit) (fun _ => ⟨50, [(7, [], .s (.p 5 0)), (6, [], .s (.int .i64 (k1 : Int))), (5, [], .s (.p 4 0)), (4, [], .s (.p 3 0)), (2, [], .s (.p 2 0)), (1, [], .s (.ref 1))], [(5, .box 43 [.int .i64 (b.loads.getD (on.getD k1 zPlace).load.toNat zLoad).w.lo, .int .i64 (b.loads.getD (on.getD k1 zPlace).load.toNat zLoad).w.hi]), (4, .box 43 [.int .i64 v1_1, .int .i64 v1_2]), (3, .box 43 [.int .i64 0, .int .i64 0]), (2, .box 24 [.ref 0, .int .i64 b.rule, .int .i64 b.most]), (0, .sl .ro 61 3 b.loads encLoad zLoad), (1, .sl .ro 65 2 on encPlace zPlace)], 6, []⟩) ?_ ?_)
    · refine WP_drawH [] (by kernel_rfl) (by kernel_rfl) ?_
      refine H_run tt_ok [0, 1, 2, 3] (f' := 8) (by kernel_rfl) (by kernel_rfl) (by kernel_rfl) ?_
      refine H_IX tt_ok 4 (k1 : Int) on.length [] (by kernel_rfl) (fun hG => ⟨by omega, by omega⟩) (by kernel_rfl) (by kernel_rfl) ?_
      refine H_two 5 10 (by kernel_rfl) (by kernel_rfl) (by kernel_rfl) (fun hfz cx' hx1 hx2 => ?_) (fun hfz cx' hx1 hx2 => ?_)
      · refine WPO_all tt_ok (by kernel_rfl) ?_
        refine ⟨rfl, (hfz.fnds [4, 3, 2, 0, 1] (by kernel_rfl) ⟨by kernel_rfl, by kernel_rfl, by kernel_rfl, by kernel_rfl, by kernel_rfl, trivial⟩ (by kernel_rfl)), ?_⟩
        refine H_run tt_ok [6] (f' := 5) (by kernel_rfl) (by kernel_rfl) (by kernel_rfl) ?_
        refine H_IX tt_ok 7 (on.getD k1 zPlace).load b.loads.length [] (by kernel_rfl) (fun hG => ⟨by omega, by omega⟩) (by kernel_rfl) (by kernel_rfl) ?_
        refine H_two 8 10 (by kernel_rfl) (by kernel_rfl) (by kernel_rfl) (fun hfz cx' hx1 hx2 => ?_) (fun hfz cx' hx1 hx2 => ?_)
        · refine WPO_all tt_ok (by kernel_rfl) ?_
          refine ⟨rfl, (hfz.fnds [4, 3, 2, 0, 1] (by kernel_rfl) ⟨by kernel_rfl, by kernel_rfl, by kernel_rfl, by kernel_rfl, by kernel_rfl, trivial⟩ (by kernel_rfl)), ?_⟩
          refine H_run tt_ok [9] (f' := 2) (by kernel_rfl) (by kernel_rfl) (by kernel_rfl) ?_
          refine H_step 10 (by kernel_rfl) (by kernel_rfl) (fun hfz cx' hx1 hx2 => ?_)
          refine WPO_all tt_ok (by kernel_rfl) ?_
          refine ⟨rfl, (hfz.fnds [4, 3, 2, 0, 1] (by kernel_rfl) ⟨by kernel_rfl, by kernel_rfl, by kernel_rfl, by kernel_rfl, by kernel_rfl, trivial⟩ (by kernel_rfl)), ?_⟩
          refine H_step 11 (by kernel_rfl) (by kernel_rfl) (fun hfz cx' hx1 hx2 => ?_)
          refine WPO_all tt_ok (by kernel_rfl) ?_
          refine ⟨rfl, (hfz.fnds [4, 3, 2, 0, 1] (by kernel_rfl) ⟨by kernel_rfl, by kernel_rfl, by kernel_rfl, by kernel_rfl, by kernel_rfl, trivial⟩ (by kernel_rfl)), ?_⟩
          refine H_done (by kernel_rfl) ?_
          exact ⟨(), Le_sel (ts := [7, 6, 5, 4, 2, 1]) (ids := [5, 4, 3, 2, 0, 1]) (nx := 6) (by kernel_rfl)⟩
        · refine WPO_all tt_ok (by kernel_rfl) ?_
          refine ⟨rfl, (hfz.fnds [4, 3, 2, 0, 1] (by kernel_rfl) ⟨by kernel_rfl, by kernel_rfl, by kernel_rfl, by kernel_rfl, by kernel_rfl, trivial⟩ (by kernel_rfl)), ?_⟩
          refine H_step 8 (by kernel_rfl) (by kernel_rfl) (fun hfz cx' hx1 hx2 => ?_)
          refine WPO_all tt_ok (by kernel_rfl) ?_
          refine ⟨rfl, (hfz.fnds [4, 3, 2, 0, 1] (by kernel_rfl) ⟨by kernel_rfl, by kernel_rfl, by kernel_rfl, by kernel_rfl, by kernel_rfl, trivial⟩ (by kernel_rfl)), ?_⟩
          refine H_run tt_ok [9] (f' := 1) (by kernel_rfl) (by kernel_rfl) (by kernel_rfl) ?_
          refine H_step 11 (by kernel_rfl) (by kernel_rfl) (fun hfz cx' hx1 hx2 => ?_)
          refine WPO_all tt_ok (by kernel_rfl) ?_
          refine ⟨rfl, (hfz.fnds [4, 3, 2, 0, 1] (by kernel_rfl) ⟨by kernel_rfl, by kernel_rfl, by kernel_rfl, by kernel_rfl, by kernel_rfl, trivial⟩ (by kernel_rfl)), ?_⟩
          refine H_done (by kernel_rfl) ?_
          exact ⟨(), Le_sel (ts := [7, 6, 5, 4, 2, 1]) (ids := [5, 4, 3, 2, 0, 1]) (nx := 6) (by kernel_rfl)⟩
      · refine WPO_all tt_ok (by kernel_rfl) ?_
        refine ⟨rfl, (hfz.fnds [4, 3, 2, 0, 1] (by kernel_rfl) ⟨by kernel_rfl, by kernel_rfl, by kernel_rfl, by kernel_rfl, by kernel_rfl, trivial⟩ (by kernel_rfl)), ?_⟩
        refine H_step 5 (by kernel_rfl) (by kernel_rfl) (fun hfz cx' hx1 hx2 => ?_)
        refine WPO_all tt_ok (by kernel_rfl) ?_
        refine ⟨rfl, (hfz.fnds [4, 3, 2, 0, 1] (by kernel_rfl) ⟨by kernel_rfl, by kernel_rfl, by kernel_rfl, by kernel_rfl, by kernel_rfl, trivial⟩ (by kernel_rfl)), ?_⟩
        refine H_run tt_ok [6] (f' := 4) (by kernel_rfl) (by kernel_rfl) (by kernel_rfl) ?_
        refine H_IX tt_ok 7 (on.getD k1 zPlace).load b.loads.length [] (by kernel_rfl) (fun hG => ⟨by omega, by omega⟩) (by kernel_rfl) (by kernel_rfl) ?_
        refine H_step 8 (by kernel_rfl) (by kernel_rfl) (fun hfz cx' hx1 hx2 => ?_)
        refine WPO_all tt_ok (by kernel_rfl) ?_
        refine ⟨rfl, (hfz.fnds [4, 3, 2, 0, 1] (by kernel_rfl) ⟨by kernel_rfl, by kernel_rfl, by kernel_rfl, by kernel_rfl, by kernel_rfl, trivial⟩ (by kernel_rfl)), ?_⟩
        refine H_run tt_ok [9] (f' := 1) (by kernel_rfl) (by kernel_rfl) (by kernel_rfl) ?_
        refine H_step 11 (by kernel_rfl) (by kernel_rfl) (fun hfz cx' hx1 hx2 => ?_)
        refine WPO_all tt_ok (by kernel_rfl) ?_
        refine ⟨rfl, (hfz.fnds [4, 3, 2, 0, 1] (by kernel_rfl) ⟨by kernel_rfl, by kernel_rfl, by kernel_rfl, by kernel_rfl, by kernel_rfl, trivial⟩ (by kernel_rfl)), ?_⟩
        refine H_done (by kernel_rfl) ?_
        exact ⟨(), Le_sel (ts := [7, 6, 5, 4, 2, 1]) (ids := [5, 4, 3, 2, 0, 1]) (nx := 6) (by kernel_rfl)⟩
    intro _
    refine WP_seq (WP_seq (WP_region (WPO_run tt_ok 2 (by kernel_rfl) ?_)))
    refine IX tt_ok (k1 : Int) on.length [] (by kernel_rfl) (fun hG => ⟨by omega, by omega⟩) ?_
    refine WPO_all tt_ok (by kernel_rfl) ?_
    refine WP_join ((on.getD k1 zPlace).lane == 0) (fun q => ⟨50, [(7, [], .s (.p 5 0)), (6, [], .s (.int .i64 (k1 : Int))), (5, [], .s (.p 4 0)), (4, [], .s (.p 3 0)), (2, [], .s (.p 2 0)), (1, [], .s (.ref 1))], [(5, .box 43 [.int .i64 (b.loads.getD (on.getD k1 zPlace).load.toNat zLoad).w.lo, .int .i64 (b.loads.getD (on.getD k1 zPlace).load.toNat zLoad).w.hi]), (4, .box 43 [.int .i64 (bif q then (addedF (⟨v1_1, v1_2⟩ : Span) (b.loads.getD (on.getD k1 zPlace).load.toNat zLoad).w).lo else v1_1), .int .i64 (bif q then (addedF (⟨v1_1, v1_2⟩ : Span) (b.loads.getD (on.getD k1 zPlace).load.toNat zLoad).w).hi else v1_2)]), (3, .box 43 [.int .i64 0, .int .i64 0]), (2, .box 24 [.ref 0, .int .i64 b.rule, .int .i64 b.most]), (0, .sl .ro 61 3 b.loads encLoad zLoad), (1, .sl .ro 65 2 on encPlace zPlace)], 6, []⟩) (by kernel_rfl) (fun hc3 => ?_) (fun hc3 => ?_) ?_
    · have hc3' := hc3; try simp only [Bool.and_eq_true, Bool.or_eq_true, Bool.and_eq_false_iff, Bool.or_eq_false_iff, Bool.not_eq_true', Bool.not_eq_false', decide_eq_true_eq, decide_eq_false_iff_not, beq_iff_eq, beq_eq_false_iff_ne, bne_iff_ne, bne_eq_false_iff_eq, ne_eq] at hc3'
      refine WP_region (WPO_run tt_ok 2 (by kernel_rfl) ?_)
      refine CALL 93 [.g [.int .i64 v1_1, .int .i64 v1_2], .g [.int .i64 (b.loads.getD (on.getD k1 zPlace).load.toNat zLoad).w.lo, .int .i64 (b.loads.getD (on.getD k1 zPlace).load.toNat zLoad).w.hi]] (.g [.int .i64 (addedF (⟨v1_1, v1_2⟩ : Span) (b.loads.getD (on.getD k1 zPlace).load.toNat zLoad).w).lo, .int .i64 (addedF (⟨v1_1, v1_2⟩ : Span) (b.loads.getD (on.getD k1 zPlace).load.toNat zLoad).w).hi]) [] (by kernel_rfl) (goes_of (by kernel_rfl)) (by kernel_rfl) (by kernel_rfl) (fun hG nV w h => addedF_calls  (⟨v1_1, v1_2⟩ : Span) (b.loads.getD (on.getD k1 zPlace).load.toNat zLoad).w w  ) ?_
      refine WPO_all tt_ok (by kernel_rfl) ?_
      exact Le_sel (ts := [7, 6, 5, 4, 2, 1]) (ids := [5, 4, 3, 2, 0, 1]) (nx := 6) (by kernel_rfl)
    · have hc3' := hc3; try simp only [Bool.and_eq_true, Bool.or_eq_true, Bool.and_eq_false_iff, Bool.or_eq_false_iff, Bool.not_eq_true', Bool.not_eq_false', decide_eq_true_eq, decide_eq_false_iff_not, beq_iff_eq, beq_eq_false_iff_ne, bne_iff_ne, bne_eq_false_iff_eq, ne_eq] at hc3'
      refine WP_skip ?_
      exact Le_sel (ts := [7, 6, 5, 4, 2, 1]) (ids := [5, 4, 3, 2, 0, 1]) (nx := 6) (by kernel_rfl)
    refine WP_seq (WP_region (WPO_run tt_ok 2 (by kernel_rfl) ?_))
    refine IX tt_ok (k1 : Int) on.length [] (by kernel_rfl) (fun hG => ⟨by omega, by omega⟩) ?_
    refine WPO_all tt_ok (by kernel_rfl) ?_
    refine WP_join ((on.getD k1 zPlace).lane == 2) (fun q => ⟨50, [(6, [], .s (.int .i64 (k1 : Int))), (5, [], .s (.p 4 0)), (4, [], .s (.p 3 0)), (2, [], .s (.p 2 0)), (1, [], .s (.ref 1))], [(5, .box 43 [.int .i64 (b.loads.getD (on.getD k1 zPlace).load.toNat zLoad).w.lo, .int .i64 (b.loads.getD (on.getD k1 zPlace).load.toNat zLoad).w.hi]), (4, .box 43 [.int .i64 (bif q then (addedF (⟨bif ((on.getD k1 zPlace).lane == 0) then (addedF (⟨v1_1, v1_2⟩ : Span) (b.loads.getD (on.getD k1 zPlace).load.toNat zLoad).w).lo else v1_1, bif ((on.getD k1 zPlace).lane == 0) then (addedF (⟨v1_1, v1_2⟩ : Span) (b.loads.getD (on.getD k1 zPlace).load.toNat zLoad).w).hi else v1_2⟩ : Span) (rangeF (IntKind.i64.wrap (0 - (b.loads.getD (on.getD k1 zPlace).load.toNat zLoad).w.hi)) (IntKind.i64.wrap (0 - (b.loads.getD (on.getD k1 zPlace).load.toNat zLoad).w.lo)))).lo else bif ((on.getD k1 zPlace).lane == 0) then (addedF (⟨v1_1, v1_2⟩ : Span) (b.loads.getD (on.getD k1 zPlace).load.toNat zLoad).w).lo else v1_1), .int .i64 (bif q then (addedF (⟨bif ((on.getD k1 zPlace).lane == 0) then (addedF (⟨v1_1, v1_2⟩ : Span) (b.loads.getD (on.getD k1 zPlace).load.toNat zLoad).w).lo else v1_1, bif ((on.getD k1 zPlace).lane == 0) then (addedF (⟨v1_1, v1_2⟩ : Span) (b.loads.getD (on.getD k1 zPlace).load.toNat zLoad).w).hi else v1_2⟩ : Span) (rangeF (IntKind.i64.wrap (0 - (b.loads.getD (on.getD k1 zPlace).load.toNat zLoad).w.hi)) (IntKind.i64.wrap (0 - (b.loads.getD (on.getD k1 zPlace).load.toNat zLoad).w.lo)))).hi else bif ((on.getD k1 zPlace).lane == 0) then (addedF (⟨v1_1, v1_2⟩ : Span) (b.loads.getD (on.getD k1 zPlace).load.toNat zLoad).w).hi else v1_2)]), (3, .box 43 [.int .i64 0, .int .i64 0]), (2, .box 24 [.ref 0, .int .i64 b.rule, .int .i64 b.most]), (0, .sl .ro 61 3 b.loads encLoad zLoad), (1, .sl .ro 65 2 on encPlace zPlace)], 6, []⟩) (by kernel_rfl) (fun hc5 => ?_) (fun hc5 => ?_) ?_
    · have hc5' := hc5; try simp only [Bool.and_eq_true, Bool.or_eq_true, Bool.and_eq_false_iff, Bool.or_eq_false_iff, Bool.not_eq_true', Bool.not_eq_false', decide_eq_true_eq, decide_eq_false_iff_not, beq_iff_eq, beq_eq_false_iff_ne, bne_iff_ne, bne_eq_false_iff_eq, ne_eq] at hc5'
      refine WP_drawHM 9 [] [4] (by kernel_rfl) (by kernel_rfl) ?_
      refine H_run tt_ok [0, 1, 2, 3, 4, 5, 6] (f' := 2) (by kernel_rfl) (by kernel_rfl) (by kernel_rfl) ?_
      refine H_step 7 (by kernel_rfl) (by kernel_rfl) (fun hfz cx' hx1 hx2 => ?_)
      refine CALL 40 [.s (.int .i64 (IntKind.i64.wrap (0 - (b.loads.getD (on.getD k1 zPlace).load.toNat zLoad).w.hi))), .s (.int .i64 (IntKind.i64.wrap (0 - (b.loads.getD (on.getD k1 zPlace).load.toNat zLoad).w.lo)))] (.g [.int .i64 (rangeF (IntKind.i64.wrap (0 - (b.loads.getD (on.getD k1 zPlace).load.toNat zLoad).w.hi)) (IntKind.i64.wrap (0 - (b.loads.getD (on.getD k1 zPlace).load.toNat zLoad).w.lo))).lo, .int .i64 (rangeF (IntKind.i64.wrap (0 - (b.loads.getD (on.getD k1 zPlace).load.toNat zLoad).w.hi)) (IntKind.i64.wrap (0 - (b.loads.getD (on.getD k1 zPlace).load.toNat zLoad).w.lo))).hi]) [] (by kernel_rfl) (goes_of (by kernel_rfl)) (by kernel_rfl) (by kernel_rfl) (fun hG nV w h => rangeF_calls  (IntKind.i64.wrap (0 - (b.loads.getD (on.getD k1 zPlace).load.toNat zLoad).w.hi)) (IntKind.i64.wrap (0 - (b.loads.getD (on.getD k1 zPlace).load.toNat zLoad).w.lo)) w  ) ?_
      refine WPO_end (by kernel_rfl) ⟨rfl, (hfz.fnds [5, 4, 3, 2, 0, 1] (by kernel_rfl) ⟨by kernel_rfl, by kernel_rfl, by kernel_rfl, by kernel_rfl, by kernel_rfl, by kernel_rfl, trivial⟩ (by kernel_rfl)), ?_⟩
      refine H_step 8 (by kernel_rfl) (by kernel_rfl) (fun hfz cx' hx1 hx2 => ?_)
      refine CALL 93 [.g [.int .i64 (bif ((on.getD k1 zPlace).lane == 0) then (addedF (⟨v1_1, v1_2⟩ : Span) (b.loads.getD (on.getD k1 zPlace).load.toNat zLoad).w).lo else v1_1), .int .i64 (bif ((on.getD k1 zPlace).lane == 0) then (addedF (⟨v1_1, v1_2⟩ : Span) (b.loads.getD (on.getD k1 zPlace).load.toNat zLoad).w).hi else v1_2)], .g [.int .i64 (rangeF (IntKind.i64.wrap (0 - (b.loads.getD (on.getD k1 zPlace).load.toNat zLoad).w.hi)) (IntKind.i64.wrap (0 - (b.loads.getD (on.getD k1 zPlace).load.toNat zLoad).w.lo))).lo, .int .i64 (rangeF (IntKind.i64.wrap (0 - (b.loads.getD (on.getD k1 zPlace).load.toNat zLoad).w.hi)) (IntKind.i64.wrap (0 - (b.loads.getD (on.getD k1 zPlace).load.toNat zLoad).w.lo))).hi]] (.g [.int .i64 (addedF (⟨bif ((on.getD k1 zPlace).lane == 0) then (addedF (⟨v1_1, v1_2⟩ : Span) (b.loads.getD (on.getD k1 zPlace).load.toNat zLoad).w).lo else v1_1, bif ((on.getD k1 zPlace).lane == 0) then (addedF (⟨v1_1, v1_2⟩ : Span) (b.loads.getD (on.getD k1 zPlace).load.toNat zLoad).w).hi else v1_2⟩ : Span) (rangeF (IntKind.i64.wrap (0 - (b.loads.getD (on.getD k1 zPlace).load.toNat zLoad).w.hi)) (IntKind.i64.wrap (0 - (b.loads.getD (on.getD k1 zPlace).load.toNat zLoad).w.lo)))).lo, .int .i64 (addedF (⟨bif ((on.getD k1 zPlace).lane == 0) then (addedF (⟨v1_1, v1_2⟩ : Span) (b.loads.getD (on.getD k1 zPlace).load.toNat zLoad).w).lo else v1_1, bif ((on.getD k1 zPlace).lane == 0) then (addedF (⟨v1_1, v1_2⟩ : Span) (b.loads.getD (on.getD k1 zPlace).load.toNat zLoad).w).hi else v1_2⟩ : Span) (rangeF (IntKind.i64.wrap (0 - (b.loads.getD (on.getD k1 zPlace).load.toNat zLoad).w.hi)) (IntKind.i64.wrap (0 - (b.loads.getD (on.getD k1 zPlace).load.toNat zLoad).w.lo)))).hi]) [] (by kernel_rfl) (goes_of (by kernel_rfl)) (by kernel_rfl) (by kernel_rfl) (fun hG nV w h => addedF_calls  (⟨bif ((on.getD k1 zPlace).lane == 0) then (addedF (⟨v1_1, v1_2⟩ : Span) (b.loads.getD (on.getD k1 zPlace).load.toNat zLoad).w).lo else v1_1, bif ((on.getD k1 zPlace).lane == 0) then (addedF (⟨v1_1, v1_2⟩ : Span) (b.loads.getD (on.getD k1 zPlace).load.toNat zLoad).w).hi else v1_2⟩ : Span) (rangeF (IntKind.i64.wrap (0 - (b.loads.getD (on.getD k1 zPlace).load.toNat zLoad).w.hi)) (IntKind.i64.wrap (0 - (b.loads.getD (on.getD k1 zPlace).load.toNat zLoad).w.lo))) w  ) ?_
      refine WPO_end (by kernel_rfl) ⟨rfl, (hfz.fnds [5, 4, 3, 2, 0, 1] (by kernel_rfl) ⟨by kernel_rfl, by kernel_rfl, by kernel_rfl, by kernel_rfl, by kernel_rfl, by kernel_rfl, trivial⟩ (by kernel_rfl)), ?_⟩
      refine H_done (by kernel_rfl) ?_
      refine ⟨(by kernel_rfl), ?_⟩
      refine H_step 9 (by kernel_rfl) (by kernel_rfl) (fun hfz cx' hx1 hx2 => ?_)
      refine WPO_all tt_ok (by kernel_rfl) ?_
      refine ⟨rfl, (hfz.fnds [5, 3, 2, 0, 1] (by kernel_rfl) ⟨by kernel_rfl, by kernel_rfl, by kernel_rfl, by kernel_rfl, by kernel_rfl, trivial⟩ (by kernel_rfl)), ?_⟩
      refine H_done (by kernel_rfl) ?_
      exact Le_sel (ts := [6, 5, 4, 2, 1]) (ids := [5, 4, 3, 2, 0, 1]) (nx := 6) (by kernel_rfl)
    · have hc5' := hc5; try simp only [Bool.and_eq_true, Bool.or_eq_true, Bool.and_eq_false_iff, Bool.or_eq_false_iff, Bool.not_eq_true', Bool.not_eq_false', decide_eq_true_eq, decide_eq_false_iff_not, beq_iff_eq, beq_eq_false_iff_ne, bne_iff_ne, bne_eq_false_iff_eq, ne_eq] at hc5'
      refine WP_skip ?_
      exact Le_sel (ts := [6, 5, 4, 2, 1]) (ids := [5, 4, 3, 2, 0, 1]) (nx := 6) (by kernel_rfl)
    refine WP_region (WPO_all tt_ok (by kernel_rfl) ?_)
    show Q1 .normal _
    exact LA_go hq1 (ci := IntKind.i64.wrap ((k1 : Int) + 1)) (bif ((on.getD k1 zPlace).lane == 2) then (addedF (⟨bif ((on.getD k1 zPlace).lane == 0) then (addedF (⟨v1_1, v1_2⟩ : Span) (b.loads.getD (on.getD k1 zPlace).load.toNat zLoad).w).lo else v1_1, bif ((on.getD k1 zPlace).lane == 0) then (addedF (⟨v1_1, v1_2⟩ : Span) (b.loads.getD (on.getD k1 zPlace).load.toNat zLoad).w).hi else v1_2⟩ : Span) (rangeF (IntKind.i64.wrap (0 - (b.loads.getD (on.getD k1 zPlace).load.toNat zLoad).w.hi)) (IntKind.i64.wrap (0 - (b.loads.getD (on.getD k1 zPlace).load.toNat zLoad).w.lo)))).lo else bif ((on.getD k1 zPlace).lane == 0) then (addedF (⟨v1_1, v1_2⟩ : Span) (b.loads.getD (on.getD k1 zPlace).load.toNat zLoad).w).lo else v1_1, bif ((on.getD k1 zPlace).lane == 2) then (addedF (⟨bif ((on.getD k1 zPlace).lane == 0) then (addedF (⟨v1_1, v1_2⟩ : Span) (b.loads.getD (on.getD k1 zPlace).load.toNat zLoad).w).lo else v1_1, bif ((on.getD k1 zPlace).lane == 0) then (addedF (⟨v1_1, v1_2⟩ : Span) (b.loads.getD (on.getD k1 zPlace).load.toNat zLoad).w).hi else v1_2⟩ : Span) (rangeF (IntKind.i64.wrap (0 - (b.loads.getD (on.getD k1 zPlace).load.toNat zLoad).w.hi)) (IntKind.i64.wrap (0 - (b.loads.getD (on.getD k1 zPlace).load.toNat zLoad).w.lo)))).hi else bif ((on.getD k1 zPlace).lane == 0) then (addedF (⟨v1_1, v1_2⟩ : Span) (b.loads.getD (on.getD k1 zPlace).load.toNat zLoad).w).hi else v1_2) hk1 (by show _ = ((k1 + 1 : Nat) : Int); rw [wrapI (by omega) (by omega)]; omega) (loopR_go hi1 hk1 hc1 (rfl)) trivial (Le_sel (ts := [6, 5, 4, 2, 1]) (ids := [4, 3, 2, 0, 1]) (nx := 5) (by kernel_rfl))
  intro zz hR1 hP1 s' hl
  obtain ⟨u1_0, u1_1⟩ := zz
  refine WP_le hl ?_
  clear hl s'
  refine WP_seq (WP_region (WPO_all tt_ok (by kernel_rfl) ?_))
  refine WP_ret ?_
  exact ⟨.g [.int .i64 u1_0, .int .i64 u1_1], by kernel_rfl, fun nV w' h => ⟨by rw [show listR b on = (⟨u1_0, u1_1⟩ : Span) from by unfold listR; simp only [hR1, cond_true, cond_false]]; rfl, h.bel⟩⟩
def levelR (b : DBook) (on : List Place) : Int :=
  (bif (coversF (rangeF (IntKind.i64.wrap (0 - b.rule)) b.rule) (listR b on)) then 2 else (bif decide ((meetF (rangeF (IntKind.i64.wrap (0 - b.rule)) b.rule) (listR b on)).lo ≤ (meetF (rangeF (IntKind.i64.wrap (0 - b.rule)) b.rule) (listR b on)).hi) then 1 else 0))
theorem levelR_calls (g0 g1 : Value) (b : DBook) (on : List Place) (w : World) (r0 : Reads w g0 3 b.loads encLoad zLoad) (r1 : Reads w g1 2 on encPlace zPlace) (hon : ∀ x ∈ on, 0 ≤ x.load ∧ x.load < b.loads.length) : Calls Tryd.prog 109 #[.agg #[g0, iv b.rule, iv b.most], g1] w fun e w' => e = .returned (iv (levelR b on)) ∧ Below w.heap.size w w' := by
  refine calls_of_WP (cx := cx0 w (vn [g0, g1]) 2) (n := vn [g0, g1]) (vs := [.g [.ref 0, .int .i64 b.rule, .int .i64 b.most], .s (.ref 1)]) (hp := [(0, .sl .ro 61 3 b.loads encLoad zLoad), (1, .sl .ro 65 2 on encPlace zPlace)]) (nx := 2) tt_ok Tryd.func109 rfl rfl rfl (by kernel_rfl) (HSat_args (vn_one (by simp [r0.one, r1.one])) (Nat.le_refl _) ⟨⟨⟨fun _ => rfl, by decide, r0⟩, (Nat.le_of_ble_eq_true rfl)⟩, ⟨⟨fun _ => rfl, by decide, r1⟩, (Nat.le_of_ble_eq_true rfl)⟩, trivial⟩) (vsOk (by kernel_rfl)) ?_
  have hl0 := Reads.len r0
  have hl1 := Reads.len r1
  refine WP_seq (WP_region (WPO_all tt_ok (by kernel_rfl) ?_))
  refine WP_seq (WP_toX (σ := Unit) (fun _ => ⟨28, [(6, [], .s (.p 4 0)), (5, [], .s (.p 3 0))], [(4, .box 43 [.int .i64 (listR b on).lo, .int .i64 (listR b on).hi]), (3, .box 43 [.int .i64 (rangeF (IntKind.i64.wrap (0 - b.rule)) b.rule).lo, .int .i64 (rangeF (IntKind.i64.wrap (0 - b.rule)) b.rule).hi]), (2, .box 24 [.ref 0, .int .i64 b.rule, .int .i64 b.most]), (0, .sl .ro 61 3 b.loads encLoad zLoad), (1, .sl .ro 65 2 on encPlace zPlace)], 5, []⟩) ?_ ?_)
  · refine WP_drawH [] (by kernel_rfl) (by kernel_rfl) ?_
    refine H_run tt_ok [0, 1, 2, 3, 4, 6, 7] (f' := 6) (by kernel_rfl) (by kernel_rfl) (by kernel_rfl) ?_
    refine H_three 5 9 10 (by kernel_rfl) (by kernel_rfl) (by kernel_rfl) (by kernel_rfl) (fun hfz cx' hx1 hx2 => ?_) (fun hfz cx' hx1 hx2 => ?_) (fun hfz cx' hx1 hx2 => ?_)
    · refine CALL 40 [.s (.int .i64 (IntKind.i64.wrap (0 - b.rule))), .s (.int .i64 b.rule)] (.g [.int .i64 (rangeF (IntKind.i64.wrap (0 - b.rule)) b.rule).lo, .int .i64 (rangeF (IntKind.i64.wrap (0 - b.rule)) b.rule).hi]) [] (by kernel_rfl) (goes_of (by kernel_rfl)) (by kernel_rfl) (by kernel_rfl) (fun hG nV w h => rangeF_calls  (IntKind.i64.wrap (0 - b.rule)) b.rule w  ) ?_
      refine WPO_end (by kernel_rfl) ⟨rfl, (hfz.fnds [2, 0, 1] (by kernel_rfl) ⟨by kernel_rfl, by kernel_rfl, by kernel_rfl, trivial⟩ (by kernel_rfl)), ?_⟩
      refine H_three 8 9 10 (by kernel_rfl) (by kernel_rfl) (by kernel_rfl) (by kernel_rfl) (fun hfz cx' hx1 hx2 => ?_) (fun hfz cx' hx1 hx2 => ?_) (fun hfz cx' hx1 hx2 => ?_)
      · refine CALL 108 [.g [.ref 0, .int .i64 b.rule, .int .i64 b.most], .s (.ref 1)] (.g [.int .i64 (listR b on).lo, .int .i64 (listR b on).hi]) [] (by kernel_rfl) (goes_of (by kernel_rfl)) (by kernel_rfl) (by kernel_rfl) (fun hG nV w h => listR_calls (nV 0) (nV 1) b on w (h.reads (id := 0) (kd := .ro) (e := 61) (by kernel_rfl)) (h.reads (id := 1) (kd := .ro) (e := 65) (by kernel_rfl)) (by first | assumption | omega)) ?_
        refine WPO_end (by kernel_rfl) ⟨rfl, (hfz.fnds [2, 0, 1] (by kernel_rfl) ⟨by kernel_rfl, by kernel_rfl, by kernel_rfl, trivial⟩ (by kernel_rfl)), ?_⟩
        refine H_two 9 10 (by kernel_rfl) (by kernel_rfl) (by kernel_rfl) (fun hfz cx' hx1 hx2 => ?_) (fun hfz cx' hx1 hx2 => ?_)
        · refine WPO_all tt_ok (by kernel_rfl) ?_
          refine ⟨rfl, (hfz.fnds [2, 0, 1] (by kernel_rfl) ⟨by kernel_rfl, by kernel_rfl, by kernel_rfl, trivial⟩ (by kernel_rfl)), ?_⟩
          refine H_step 10 (by kernel_rfl) (by kernel_rfl) (fun hfz cx' hx1 hx2 => ?_)
          refine WPO_all tt_ok (by kernel_rfl) ?_
          refine ⟨rfl, (hfz.fnds [2, 0, 1] (by kernel_rfl) ⟨by kernel_rfl, by kernel_rfl, by kernel_rfl, trivial⟩ (by kernel_rfl)), ?_⟩
          refine H_step 11 (by kernel_rfl) (by kernel_rfl) (fun hfz cx' hx1 hx2 => ?_)
          refine WPO_all tt_ok (by kernel_rfl) ?_
          refine ⟨rfl, (hfz.fnds [2, 0, 1] (by kernel_rfl) ⟨by kernel_rfl, by kernel_rfl, by kernel_rfl, trivial⟩ (by kernel_rfl)), ?_⟩
          refine H_step 12 (by kernel_rfl) (by kernel_rfl) (fun hfz cx' hx1 hx2 => ?_)
          refine WPO_all tt_ok (by kernel_rfl) ?_
          refine ⟨rfl, (hfz.fnds [2, 0, 1] (by kernel_rfl) ⟨by kernel_rfl, by kernel_rfl, by kernel_rfl, trivial⟩ (by kernel_rfl)), ?_⟩
          refine H_done (by kernel_rfl) ?_
          exact ⟨(), Le_sel (ts := [6, 5]) (ids := [4, 3, 2, 0, 1]) (nx := 5) (by kernel_rfl)⟩
        · refine WPO_all tt_ok (by kernel_rfl) ?_
          refine ⟨rfl, (hfz.fnds [2, 0, 1] (by kernel_rfl) ⟨by kernel_rfl, by kernel_rfl, by kernel_rfl, trivial⟩ (by kernel_rfl)), ?_⟩
          refine H_step 9 (by kernel_rfl) (by kernel_rfl) (fun hfz cx' hx1 hx2 => ?_)
          refine WPO_all tt_ok (by kernel_rfl) ?_
          refine ⟨rfl, (hfz.fnds [2, 0, 1] (by kernel_rfl) ⟨by kernel_rfl, by kernel_rfl, by kernel_rfl, trivial⟩ (by kernel_rfl)), ?_⟩
          refine H_step 11 (by kernel_rfl) (by kernel_rfl) (fun hfz cx' hx1 hx2 => ?_)
          refine WPO_all tt_ok (by kernel_rfl) ?_
          refine ⟨rfl, (hfz.fnds [2, 0, 1] (by kernel_rfl) ⟨by kernel_rfl, by kernel_rfl, by kernel_rfl, trivial⟩ (by kernel_rfl)), ?_⟩
          refine H_step 12 (by kernel_rfl) (by kernel_rfl) (fun hfz cx' hx1 hx2 => ?_)
          refine WPO_all tt_ok (by kernel_rfl) ?_
          refine ⟨rfl, (hfz.fnds [2, 0, 1] (by kernel_rfl) ⟨by kernel_rfl, by kernel_rfl, by kernel_rfl, trivial⟩ (by kernel_rfl)), ?_⟩
          refine H_done (by kernel_rfl) ?_
          exact ⟨(), Le_ren [(4, 3), (3, 4)] ⟨by kernel_rfl, by kernel_rfl, by kernel_rfl, by kernel_rfl, by kernel_rfl, trivial⟩ ⟨by kernel_rfl, rfl, by kernel_rfl, by kernel_rfl, rfl, by kernel_rfl, trivial⟩ (by kernel_rfl) (by kernel_rfl) (rnm_id (m := 2) (by kernel_rfl)) (by show 2 ≤ 5; decide) (by kernel_rfl) (by kernel_rfl)⟩
      · refine WPO_all tt_ok (by kernel_rfl) ?_
        refine ⟨rfl, (hfz.fnds [2, 0, 1] (by kernel_rfl) ⟨by kernel_rfl, by kernel_rfl, by kernel_rfl, trivial⟩ (by kernel_rfl)), ?_⟩
        refine H_two 8 10 (by kernel_rfl) (by kernel_rfl) (by kernel_rfl) (fun hfz cx' hx1 hx2 => ?_) (fun hfz cx' hx1 hx2 => ?_)
        · refine CALL 108 [.g [.ref 0, .int .i64 b.rule, .int .i64 b.most], .s (.ref 1)] (.g [.int .i64 (listR b on).lo, .int .i64 (listR b on).hi]) [] (by kernel_rfl) (goes_of (by kernel_rfl)) (by kernel_rfl) (by kernel_rfl) (fun hG nV w h => listR_calls (nV 0) (nV 1) b on w (h.reads (id := 0) (kd := .ro) (e := 61) (by kernel_rfl)) (h.reads (id := 1) (kd := .ro) (e := 65) (by kernel_rfl)) (by first | assumption | omega)) ?_
          refine WPO_end (by kernel_rfl) ⟨rfl, (hfz.fnds [2, 0, 1] (by kernel_rfl) ⟨by kernel_rfl, by kernel_rfl, by kernel_rfl, trivial⟩ (by kernel_rfl)), ?_⟩
          refine H_step 10 (by kernel_rfl) (by kernel_rfl) (fun hfz cx' hx1 hx2 => ?_)
          refine WPO_all tt_ok (by kernel_rfl) ?_
          refine ⟨rfl, (hfz.fnds [2, 0, 1] (by kernel_rfl) ⟨by kernel_rfl, by kernel_rfl, by kernel_rfl, trivial⟩ (by kernel_rfl)), ?_⟩
          refine H_step 11 (by kernel_rfl) (by kernel_rfl) (fun hfz cx' hx1 hx2 => ?_)
          refine WPO_all tt_ok (by kernel_rfl) ?_
          refine ⟨rfl, (hfz.fnds [2, 0, 1] (by kernel_rfl) ⟨by kernel_rfl, by kernel_rfl, by kernel_rfl, trivial⟩ (by kernel_rfl)), ?_⟩
          refine H_step 12 (by kernel_rfl) (by kernel_rfl) (fun hfz cx' hx1 hx2 => ?_)
          refine WPO_all tt_ok (by kernel_rfl) ?_
          refine ⟨rfl, (hfz.fnds [2, 0, 1] (by kernel_rfl) ⟨by kernel_rfl, by kernel_rfl, by kernel_rfl, trivial⟩ (by kernel_rfl)), ?_⟩
          refine H_done (by kernel_rfl) ?_
          exact ⟨(), Le_sel (ts := [6, 5]) (ids := [4, 3, 2, 0, 1]) (nx := 5) (by kernel_rfl)⟩
        · refine WPO_all tt_ok (by kernel_rfl) ?_
          refine ⟨rfl, (hfz.fnds [2, 0, 1] (by kernel_rfl) ⟨by kernel_rfl, by kernel_rfl, by kernel_rfl, trivial⟩ (by kernel_rfl)), ?_⟩
          refine H_step 8 (by kernel_rfl) (by kernel_rfl) (fun hfz cx' hx1 hx2 => ?_)
          refine CALL 108 [.g [.ref 0, .int .i64 b.rule, .int .i64 b.most], .s (.ref 1)] (.g [.int .i64 (listR b on).lo, .int .i64 (listR b on).hi]) [] (by kernel_rfl) (goes_of (by kernel_rfl)) (by kernel_rfl) (by kernel_rfl) (fun hG nV w h => listR_calls (nV 0) (nV 1) b on w (h.reads (id := 0) (kd := .ro) (e := 61) (by kernel_rfl)) (h.reads (id := 1) (kd := .ro) (e := 65) (by kernel_rfl)) (by first | assumption | omega)) ?_
          refine WPO_end (by kernel_rfl) ⟨rfl, (hfz.fnds [2, 0, 1] (by kernel_rfl) ⟨by kernel_rfl, by kernel_rfl, by kernel_rfl, trivial⟩ (by kernel_rfl)), ?_⟩
          refine H_step 11 (by kernel_rfl) (by kernel_rfl) (fun hfz cx' hx1 hx2 => ?_)
          refine WPO_all tt_ok (by kernel_rfl) ?_
          refine ⟨rfl, (hfz.fnds [2, 0, 1] (by kernel_rfl) ⟨by kernel_rfl, by kernel_rfl, by kernel_rfl, trivial⟩ (by kernel_rfl)), ?_⟩
          refine H_step 12 (by kernel_rfl) (by kernel_rfl) (fun hfz cx' hx1 hx2 => ?_)
          refine WPO_all tt_ok (by kernel_rfl) ?_
          refine ⟨rfl, (hfz.fnds [2, 0, 1] (by kernel_rfl) ⟨by kernel_rfl, by kernel_rfl, by kernel_rfl, trivial⟩ (by kernel_rfl)), ?_⟩
          refine H_done (by kernel_rfl) ?_
          exact ⟨(), Le_sel (ts := [6, 5]) (ids := [4, 3, 2, 0, 1]) (nx := 5) (by kernel_rfl)⟩
      · refine WPO_all tt_ok (by kernel_rfl) ?_
        refine ⟨rfl, (hfz.fnds [2, 0, 1] (by kernel_rfl) ⟨by kernel_rfl, by kernel_rfl, by kernel_rfl, trivial⟩ (by kernel_rfl)), ?_⟩
        refine H_two 8 9 (by kernel_rfl) (by kernel_rfl) (by kernel_rfl) (fun hfz cx' hx1 hx2 => ?_) (fun hfz cx' hx1 hx2 => ?_)
        · refine CALL 108 [.g [.ref 0, .int .i64 b.rule, .int .i64 b.most], .s (.ref 1)] (.g [.int .i64 (listR b on).lo, .int .i64 (listR b on).hi]) [] (by kernel_rfl) (goes_of (by kernel_rfl)) (by kernel_rfl) (by kernel_rfl) (fun hG nV w h => listR_calls (nV 0) (nV 1) b on w (h.reads (id := 0) (kd := .ro) (e := 61) (by kernel_rfl)) (h.reads (id := 1) (kd := .ro) (e := 65) (by kernel_rfl)) (by first | assumption | omega)) ?_
          refine WPO_end (by kernel_rfl) ⟨rfl, (hfz.fnds [2, 0, 1] (by kernel_rfl) ⟨by kernel_rfl, by kernel_rfl, by kernel_rfl, trivial⟩ (by kernel_rfl)), ?_⟩
          refine H_step 9 (by kernel_rfl) (by kernel_rfl) (fun hfz cx' hx1 hx2 => ?_)
          refine WPO_all tt_ok (by kernel_rfl) ?_
          refine ⟨rfl, (hfz.fnds [2, 0, 1] (by kernel_rfl) ⟨by kernel_rfl, by kernel_rfl, by kernel_rfl, trivial⟩ (by kernel_rfl)), ?_⟩
          refine H_step 11 (by kernel_rfl) (by kernel_rfl) (fun hfz cx' hx1 hx2 => ?_)
          refine WPO_all tt_ok (by kernel_rfl) ?_
          refine ⟨rfl, (hfz.fnds [2, 0, 1] (by kernel_rfl) ⟨by kernel_rfl, by kernel_rfl, by kernel_rfl, trivial⟩ (by kernel_rfl)), ?_⟩
          refine H_step 12 (by kernel_rfl) (by kernel_rfl) (fun hfz cx' hx1 hx2 => ?_)
          refine WPO_all tt_ok (by kernel_rfl) ?_
          refine ⟨rfl, (hfz.fnds [2, 0, 1] (by kernel_rfl) ⟨by kernel_rfl, by kernel_rfl, by kernel_rfl, trivial⟩ (by kernel_rfl)), ?_⟩
          refine H_done (by kernel_rfl) ?_
          exact ⟨(), Le_ren [(4, 3), (3, 4)] ⟨by kernel_rfl, by kernel_rfl, by kernel_rfl, by kernel_rfl, by kernel_rfl, trivial⟩ ⟨by kernel_rfl, rfl, by kernel_rfl, by kernel_rfl, rfl, by kernel_rfl, trivial⟩ (by kernel_rfl) (by kernel_rfl) (rnm_id (m := 2) (by kernel_rfl)) (by show 2 ≤ 5; decide) (by kernel_rfl) (by kernel_rfl)⟩
        · refine WPO_all tt_ok (by kernel_rfl) ?_
          refine ⟨rfl, (hfz.fnds [2, 0, 1] (by kernel_rfl) ⟨by kernel_rfl, by kernel_rfl, by kernel_rfl, trivial⟩ (by kernel_rfl)), ?_⟩
          refine H_step 8 (by kernel_rfl) (by kernel_rfl) (fun hfz cx' hx1 hx2 => ?_)
          refine CALL 108 [.g [.ref 0, .int .i64 b.rule, .int .i64 b.most], .s (.ref 1)] (.g [.int .i64 (listR b on).lo, .int .i64 (listR b on).hi]) [] (by kernel_rfl) (goes_of (by kernel_rfl)) (by kernel_rfl) (by kernel_rfl) (fun hG nV w h => listR_calls (nV 0) (nV 1) b on w (h.reads (id := 0) (kd := .ro) (e := 61) (by kernel_rfl)) (h.reads (id := 1) (kd := .ro) (e := 65) (by kernel_rfl)) (by first | assumption | omega)) ?_
          refine WPO_end (by kernel_rfl) ⟨rfl, (hfz.fnds [2, 0, 1] (by kernel_rfl) ⟨by kernel_rfl, by kernel_rfl, by kernel_rfl, trivial⟩ (by kernel_rfl)), ?_⟩
          refine H_step 11 (by kernel_rfl) (by kernel_rfl) (fun hfz cx' hx1 hx2 => ?_)
          refine WPO_all tt_ok (by kernel_rfl) ?_
          refine ⟨rfl, (hfz.fnds [2, 0, 1] (by kernel_rfl) ⟨by kernel_rfl, by kernel_rfl, by kernel_rfl, trivial⟩ (by kernel_rfl)), ?_⟩
          refine H_step 12 (by kernel_rfl) (by kernel_rfl) (fun hfz cx' hx1 hx2 => ?_)
          refine WPO_all tt_ok (by kernel_rfl) ?_
          refine ⟨rfl, (hfz.fnds [2, 0, 1] (by kernel_rfl) ⟨by kernel_rfl, by kernel_rfl, by kernel_rfl, trivial⟩ (by kernel_rfl)), ?_⟩
          refine H_done (by kernel_rfl) ?_
          exact ⟨(), Le_ren [(4, 3), (3, 4)] ⟨by kernel_rfl, by kernel_rfl, by kernel_rfl, by kernel_rfl, by kernel_rfl, trivial⟩ ⟨by kernel_rfl, rfl, by kernel_rfl, by kernel_rfl, rfl, by kernel_rfl, trivial⟩ (by kernel_rfl) (by kernel_rfl) (rnm_id (m := 2) (by kernel_rfl)) (by show 2 ≤ 5; decide) (by kernel_rfl) (by kernel_rfl)⟩
    · refine WPO_all tt_ok (by kernel_rfl) ?_
      refine ⟨rfl, (hfz.fnds [2, 0, 1] (by kernel_rfl) ⟨by kernel_rfl, by kernel_rfl, by kernel_rfl, trivial⟩ (by kernel_rfl)), ?_⟩
      refine H_two 5 10 (by kernel_rfl) (by kernel_rfl) (by kernel_rfl) (fun hfz cx' hx1 hx2 => ?_) (fun hfz cx' hx1 hx2 => ?_)
      · refine CALL 40 [.s (.int .i64 (IntKind.i64.wrap (0 - b.rule))), .s (.int .i64 b.rule)] (.g [.int .i64 (rangeF (IntKind.i64.wrap (0 - b.rule)) b.rule).lo, .int .i64 (rangeF (IntKind.i64.wrap (0 - b.rule)) b.rule).hi]) [] (by kernel_rfl) (goes_of (by kernel_rfl)) (by kernel_rfl) (by kernel_rfl) (fun hG nV w h => rangeF_calls  (IntKind.i64.wrap (0 - b.rule)) b.rule w  ) ?_
        refine WPO_end (by kernel_rfl) ⟨rfl, (hfz.fnds [2, 0, 1] (by kernel_rfl) ⟨by kernel_rfl, by kernel_rfl, by kernel_rfl, trivial⟩ (by kernel_rfl)), ?_⟩
        refine H_two 8 10 (by kernel_rfl) (by kernel_rfl) (by kernel_rfl) (fun hfz cx' hx1 hx2 => ?_) (fun hfz cx' hx1 hx2 => ?_)
        · refine CALL 108 [.g [.ref 0, .int .i64 b.rule, .int .i64 b.most], .s (.ref 1)] (.g [.int .i64 (listR b on).lo, .int .i64 (listR b on).hi]) [] (by kernel_rfl) (goes_of (by kernel_rfl)) (by kernel_rfl) (by kernel_rfl) (fun hG nV w h => listR_calls (nV 0) (nV 1) b on w (h.reads (id := 0) (kd := .ro) (e := 61) (by kernel_rfl)) (h.reads (id := 1) (kd := .ro) (e := 65) (by kernel_rfl)) (by first | assumption | omega)) ?_
          refine WPO_end (by kernel_rfl) ⟨rfl, (hfz.fnds [2, 0, 1] (by kernel_rfl) ⟨by kernel_rfl, by kernel_rfl, by kernel_rfl, trivial⟩ (by kernel_rfl)), ?_⟩
          refine H_step 10 (by kernel_rfl) (by kernel_rfl) (fun hfz cx' hx1 hx2 => ?_)
          refine WPO_all tt_ok (by kernel_rfl) ?_
          refine ⟨rfl, (hfz.fnds [2, 0, 1] (by kernel_rfl) ⟨by kernel_rfl, by kernel_rfl, by kernel_rfl, trivial⟩ (by kernel_rfl)), ?_⟩
          refine H_step 11 (by kernel_rfl) (by kernel_rfl) (fun hfz cx' hx1 hx2 => ?_)
          refine WPO_all tt_ok (by kernel_rfl) ?_
          refine ⟨rfl, (hfz.fnds [2, 0, 1] (by kernel_rfl) ⟨by kernel_rfl, by kernel_rfl, by kernel_rfl, trivial⟩ (by kernel_rfl)), ?_⟩
          refine H_step 12 (by kernel_rfl) (by kernel_rfl) (fun hfz cx' hx1 hx2 => ?_)
          refine WPO_all tt_ok (by kernel_rfl) ?_
          refine ⟨rfl, (hfz.fnds [2, 0, 1] (by kernel_rfl) ⟨by kernel_rfl, by kernel_rfl, by kernel_rfl, trivial⟩ (by kernel_rfl)), ?_⟩
          refine H_done (by kernel_rfl) ?_
          exact ⟨(), Le_sel (ts := [6, 5]) (ids := [4, 3, 2, 0, 1]) (nx := 5) (by kernel_rfl)⟩
        · refine WPO_all tt_ok (by kernel_rfl) ?_
          refine ⟨rfl, (hfz.fnds [2, 0, 1] (by kernel_rfl) ⟨by kernel_rfl, by kernel_rfl, by kernel_rfl, trivial⟩ (by kernel_rfl)), ?_⟩
          refine H_step 8 (by kernel_rfl) (by kernel_rfl) (fun hfz cx' hx1 hx2 => ?_)
          refine CALL 108 [.g [.ref 0, .int .i64 b.rule, .int .i64 b.most], .s (.ref 1)] (.g [.int .i64 (listR b on).lo, .int .i64 (listR b on).hi]) [] (by kernel_rfl) (goes_of (by kernel_rfl)) (by kernel_rfl) (by kernel_rfl) (fun hG nV w h => listR_calls (nV 0) (nV 1) b on w (h.reads (id := 0) (kd := .ro) (e := 61) (by kernel_rfl)) (h.reads (id := 1) (kd := .ro) (e := 65) (by kernel_rfl)) (by first | assumption | omega)) ?_
          refine WPO_end (by kernel_rfl) ⟨rfl, (hfz.fnds [2, 0, 1] (by kernel_rfl) ⟨by kernel_rfl, by kernel_rfl, by kernel_rfl, trivial⟩ (by kernel_rfl)), ?_⟩
          refine H_step 11 (by kernel_rfl) (by kernel_rfl) (fun hfz cx' hx1 hx2 => ?_)
          refine WPO_all tt_ok (by kernel_rfl) ?_
          refine ⟨rfl, (hfz.fnds [2, 0, 1] (by kernel_rfl) ⟨by kernel_rfl, by kernel_rfl, by kernel_rfl, trivial⟩ (by kernel_rfl)), ?_⟩
          refine H_step 12 (by kernel_rfl) (by kernel_rfl) (fun hfz cx' hx1 hx2 => ?_)
          refine WPO_all tt_ok (by kernel_rfl) ?_
          refine ⟨rfl, (hfz.fnds [2, 0, 1] (by kernel_rfl) ⟨by kernel_rfl, by kernel_rfl, by kernel_rfl, trivial⟩ (by kernel_rfl)), ?_⟩
          refine H_done (by kernel_rfl) ?_
          exact ⟨(), Le_sel (ts := [6, 5]) (ids := [4, 3, 2, 0, 1]) (nx := 5) (by kernel_rfl)⟩
      · refine WPO_all tt_ok (by kernel_rfl) ?_
        refine ⟨rfl, (hfz.fnds [2, 0, 1] (by kernel_rfl) ⟨by kernel_rfl, by kernel_rfl, by kernel_rfl, trivial⟩ (by kernel_rfl)), ?_⟩
        refine H_step 5 (by kernel_rfl) (by kernel_rfl) (fun hfz cx' hx1 hx2 => ?_)
        refine CALL 40 [.s (.int .i64 (IntKind.i64.wrap (0 - b.rule))), .s (.int .i64 b.rule)] (.g [.int .i64 (rangeF (IntKind.i64.wrap (0 - b.rule)) b.rule).lo, .int .i64 (rangeF (IntKind.i64.wrap (0 - b.rule)) b.rule).hi]) [] (by kernel_rfl) (goes_of (by kernel_rfl)) (by kernel_rfl) (by kernel_rfl) (fun hG nV w h => rangeF_calls  (IntKind.i64.wrap (0 - b.rule)) b.rule w  ) ?_
        refine WPO_end (by kernel_rfl) ⟨rfl, (hfz.fnds [2, 0, 1] (by kernel_rfl) ⟨by kernel_rfl, by kernel_rfl, by kernel_rfl, trivial⟩ (by kernel_rfl)), ?_⟩
        refine H_step 8 (by kernel_rfl) (by kernel_rfl) (fun hfz cx' hx1 hx2 => ?_)
        refine CALL 108 [.g [.ref 0, .int .i64 b.rule, .int .i64 b.most], .s (.ref 1)] (.g [.int .i64 (listR b on).lo, .int .i64 (listR b on).hi]) [] (by kernel_rfl) (goes_of (by kernel_rfl)) (by kernel_rfl) (by kernel_rfl) (fun hG nV w h => listR_calls (nV 0) (nV 1) b on w (h.reads (id := 0) (kd := .ro) (e := 61) (by kernel_rfl)) (h.reads (id := 1) (kd := .ro) (e := 65) (by kernel_rfl)) (by first | assumption | omega)) ?_
        refine WPO_end (by kernel_rfl) ⟨rfl, (hfz.fnds [2, 0, 1] (by kernel_rfl) ⟨by kernel_rfl, by kernel_rfl, by kernel_rfl, trivial⟩ (by kernel_rfl)), ?_⟩
        refine H_step 11 (by kernel_rfl) (by kernel_rfl) (fun hfz cx' hx1 hx2 => ?_)
        refine WPO_all tt_ok (by kernel_rfl) ?_
        refine ⟨rfl, (hfz.fnds [2, 0, 1] (by kernel_rfl) ⟨by kernel_rfl, by kernel_rfl, by kernel_rfl, trivial⟩ (by kernel_rfl)), ?_⟩
        refine H_step 12 (by kernel_rfl) (by kernel_rfl) (fun hfz cx' hx1 hx2 => ?_)
        refine WPO_all tt_ok (by kernel_rfl) ?_
        refine ⟨rfl, (hfz.fnds [2, 0, 1] (by kernel_rfl) ⟨by kernel_rfl, by kernel_rfl, by kernel_rfl, trivial⟩ (by kernel_rfl)), ?_⟩
        refine H_done (by kernel_rfl) ?_
        exact ⟨(), Le_sel (ts := [6, 5]) (ids := [4, 3, 2, 0, 1]) (nx := 5) (by kernel_rfl)⟩
    · refine WPO_all tt_ok (by kernel_rfl) ?_
      refine ⟨rfl, (hfz.fnds [2, 0, 1] (by kernel_rfl) ⟨by kernel_rfl, by kernel_rfl, by kernel_rfl, trivial⟩ (by kernel_rfl)), ?_⟩
      refine H_two 5 9 (by kernel_rfl) (by kernel_rfl) (by kernel_rfl) (fun hfz cx' hx1 hx2 => ?_) (fun hfz cx' hx1 hx2 => ?_)
      · refine CALL 40 [.s (.int .i64 (IntKind.i64.wrap (0 - b.rule))), .s (.int .i64 b.rule)] (.g [.int .i64 (rangeF (IntKind.i64.wrap (0 - b.rule)) b.rule).lo, .int .i64 (rangeF (IntKind.i64.wrap (0 - b.rule)) b.rule).hi]) [] (by kernel_rfl) (goes_of (by kernel_rfl)) (by kernel_rfl) (by kernel_rfl) (fun hG nV w h => rangeF_calls  (IntKind.i64.wrap (0 - b.rule)) b.rule w  ) ?_
        refine WPO_end (by kernel_rfl) ⟨rfl, (hfz.fnds [2, 0, 1] (by kernel_rfl) ⟨by kernel_rfl, by kernel_rfl, by kernel_rfl, trivial⟩ (by kernel_rfl)), ?_⟩
        refine H_two 8 9 (by kernel_rfl) (by kernel_rfl) (by kernel_rfl) (fun hfz cx' hx1 hx2 => ?_) (fun hfz cx' hx1 hx2 => ?_)
        · refine CALL 108 [.g [.ref 0, .int .i64 b.rule, .int .i64 b.most], .s (.ref 1)] (.g [.int .i64 (listR b on).lo, .int .i64 (listR b on).hi]) [] (by kernel_rfl) (goes_of (by kernel_rfl)) (by kernel_rfl) (by kernel_rfl) (fun hG nV w h => listR_calls (nV 0) (nV 1) b on w (h.reads (id := 0) (kd := .ro) (e := 61) (by kernel_rfl)) (h.reads (id := 1) (kd := .ro) (e := 65) (by kernel_rfl)) (by first | assumption | omega)) ?_
          refine WPO_end (by kernel_rfl) ⟨rfl, (hfz.fnds [2, 0, 1] (by kernel_rfl) ⟨by kernel_rfl, by kernel_rfl, by kernel_rfl, trivial⟩ (by kernel_rfl)), ?_⟩
          refine H_step 9 (by kernel_rfl) (by kernel_rfl) (fun hfz cx' hx1 hx2 => ?_)
          refine WPO_all tt_ok (by kernel_rfl) ?_
          refine ⟨rfl, (hfz.fnds [2, 0, 1] (by kernel_rfl) ⟨by kernel_rfl, by kernel_rfl, by kernel_rfl, trivial⟩ (by kernel_rfl)), ?_⟩
          refine H_step 11 (by kernel_rfl) (by kernel_rfl) (fun hfz cx' hx1 hx2 => ?_)
          refine WPO_all tt_ok (by kernel_rfl) ?_
          refine ⟨rfl, (hfz.fnds [2, 0, 1] (by kernel_rfl) ⟨by kernel_rfl, by kernel_rfl, by kernel_rfl, trivial⟩ (by kernel_rfl)), ?_⟩
          refine H_step 12 (by kernel_rfl) (by kernel_rfl) (fun hfz cx' hx1 hx2 => ?_)
          refine WPO_all tt_ok (by kernel_rfl) ?_
          refine ⟨rfl, (hfz.fnds [2, 0, 1] (by kernel_rfl) ⟨by kernel_rfl, by kernel_rfl, by kernel_rfl, trivial⟩ (by kernel_rfl)), ?_⟩
          refine H_done (by kernel_rfl) ?_
          exact ⟨(), Le_ren [(4, 3), (3, 4)] ⟨by kernel_rfl, by kernel_rfl, by kernel_rfl, by kernel_rfl, by kernel_rfl, trivial⟩ ⟨by kernel_rfl, rfl, by kernel_rfl, by kernel_rfl, rfl, by kernel_rfl, trivial⟩ (by kernel_rfl) (by kernel_rfl) (rnm_id (m := 2) (by kernel_rfl)) (by show 2 ≤ 5; decide) (by kernel_rfl) (by kernel_rfl)⟩
        · refine WPO_all tt_ok (by kernel_rfl) ?_
          refine ⟨rfl, (hfz.fnds [2, 0, 1] (by kernel_rfl) ⟨by kernel_rfl, by kernel_rfl, by kernel_rfl, trivial⟩ (by kernel_rfl)), ?_⟩
          refine H_step 8 (by kernel_rfl) (by kernel_rfl) (fun hfz cx' hx1 hx2 => ?_)
          refine CALL 108 [.g [.ref 0, .int .i64 b.rule, .int .i64 b.most], .s (.ref 1)] (.g [.int .i64 (listR b on).lo, .int .i64 (listR b on).hi]) [] (by kernel_rfl) (goes_of (by kernel_rfl)) (by kernel_rfl) (by kernel_rfl) (fun hG nV w h => listR_calls (nV 0) (nV 1) b on w (h.reads (id := 0) (kd := .ro) (e := 61) (by kernel_rfl)) (h.reads (id := 1) (kd := .ro) (e := 65) (by kernel_rfl)) (by first | assumption | omega)) ?_
          refine WPO_end (by kernel_rfl) ⟨rfl, (hfz.fnds [2, 0, 1] (by kernel_rfl) ⟨by kernel_rfl, by kernel_rfl, by kernel_rfl, trivial⟩ (by kernel_rfl)), ?_⟩
          refine H_step 11 (by kernel_rfl) (by kernel_rfl) (fun hfz cx' hx1 hx2 => ?_)
          refine WPO_all tt_ok (by kernel_rfl) ?_
          refine ⟨rfl, (hfz.fnds [2, 0, 1] (by kernel_rfl) ⟨by kernel_rfl, by kernel_rfl, by kernel_rfl, trivial⟩ (by kernel_rfl)), ?_⟩
          refine H_step 12 (by kernel_rfl) (by kernel_rfl) (fun hfz cx' hx1 hx2 => ?_)
          refine WPO_all tt_ok (by kernel_rfl) ?_
          refine ⟨rfl, (hfz.fnds [2, 0, 1] (by kernel_rfl) ⟨by kernel_rfl, by kernel_rfl, by kernel_rfl, trivial⟩ (by kernel_rfl)), ?_⟩
          refine H_done (by kernel_rfl) ?_
          exact ⟨(), Le_ren [(4, 3), (3, 4)] ⟨by kernel_rfl, by kernel_rfl, by kernel_rfl, by kernel_rfl, by kernel_rfl, trivial⟩ ⟨by kernel_rfl, rfl, by kernel_rfl, by kernel_rfl, rfl, by kernel_rfl, trivial⟩ (by kernel_rfl) (by kernel_rfl) (rnm_id (m := 2) (by kernel_rfl)) (by show 2 ≤ 5; decide) (by kernel_rfl) (by kernel_rfl)⟩
      · refine WPO_all tt_ok (by kernel_rfl) ?_
        refine ⟨rfl, (hfz.fnds [2, 0, 1] (by kernel_rfl) ⟨by kernel_rfl, by kernel_rfl, by kernel_rfl, trivial⟩ (by kernel_rfl)), ?_⟩
        refine H_step 5 (by kernel_rfl) (by kernel_rfl) (fun hfz cx' hx1 hx2 => ?_)
        refine CALL 40 [.s (.int .i64 (IntKind.i64.wrap (0 - b.rule))), .s (.int .i64 b.rule)] (.g [.int .i64 (rangeF (IntKind.i64.wrap (0 - b.rule)) b.rule).lo, .int .i64 (rangeF (IntKind.i64.wrap (0 - b.rule)) b.rule).hi]) [] (by kernel_rfl) (goes_of (by kernel_rfl)) (by kernel_rfl) (by kernel_rfl) (fun hG nV w h => rangeF_calls  (IntKind.i64.wrap (0 - b.rule)) b.rule w  ) ?_
        refine WPO_end (by kernel_rfl) ⟨rfl, (hfz.fnds [2, 0, 1] (by kernel_rfl) ⟨by kernel_rfl, by kernel_rfl, by kernel_rfl, trivial⟩ (by kernel_rfl)), ?_⟩
        refine H_step 8 (by kernel_rfl) (by kernel_rfl) (fun hfz cx' hx1 hx2 => ?_)
        refine CALL 108 [.g [.ref 0, .int .i64 b.rule, .int .i64 b.most], .s (.ref 1)] (.g [.int .i64 (listR b on).lo, .int .i64 (listR b on).hi]) [] (by kernel_rfl) (goes_of (by kernel_rfl)) (by kernel_rfl) (by kernel_rfl) (fun hG nV w h => listR_calls (nV 0) (nV 1) b on w (h.reads (id := 0) (kd := .ro) (e := 61) (by kernel_rfl)) (h.reads (id := 1) (kd := .ro) (e := 65) (by kernel_rfl)) (by first | assumption | omega)) ?_
        refine WPO_end (by kernel_rfl) ⟨rfl, (hfz.fnds [2, 0, 1] (by kernel_rfl) ⟨by kernel_rfl, by kernel_rfl, by kernel_rfl, trivial⟩ (by kernel_rfl)), ?_⟩
        refine H_step 11 (by kernel_rfl) (by kernel_rfl) (fun hfz cx' hx1 hx2 => ?_)
        refine WPO_all tt_ok (by kernel_rfl) ?_
        refine ⟨rfl, (hfz.fnds [2, 0, 1] (by kernel_rfl) ⟨by kernel_rfl, by kernel_rfl, by kernel_rfl, trivial⟩ (by kernel_rfl)), ?_⟩
        refine H_step 12 (by kernel_rfl) (by kernel_rfl) (fun hfz cx' hx1 hx2 => ?_)
        refine WPO_all tt_ok (by kernel_rfl) ?_
        refine ⟨rfl, (hfz.fnds [2, 0, 1] (by kernel_rfl) ⟨by kernel_rfl, by kernel_rfl, by kernel_rfl, trivial⟩ (by kernel_rfl)), ?_⟩
        refine H_done (by kernel_rfl) ?_
        exact ⟨(), Le_ren [(4, 3), (3, 4)] ⟨by kernel_rfl, by kernel_rfl, by kernel_rfl, by kernel_rfl, by kernel_rfl, trivial⟩ ⟨by kernel_rfl, rfl, by kernel_rfl, by kernel_rfl, rfl, by kernel_rfl, trivial⟩ (by kernel_rfl) (by kernel_rfl) (rnm_id (m := 2) (by kernel_rfl)) (by show 2 ≤ 5; decide) (by kernel_rfl) (by kernel_rfl)⟩
  intro _
  refine WP_seq (WP_seq (WP_region (WPO_run tt_ok 2 (by kernel_rfl) ?_)))
  refine CALL 41 [.g [.int .i64 (rangeF (IntKind.i64.wrap (0 - b.rule)) b.rule).lo, .int .i64 (rangeF (IntKind.i64.wrap (0 - b.rule)) b.rule).hi], .g [.int .i64 (listR b on).lo, .int .i64 (listR b on).hi]] (.s (.bool (coversF (rangeF (IntKind.i64.wrap (0 - b.rule)) b.rule) (listR b on)))) [] (by kernel_rfl) (goes_of (by kernel_rfl)) (by kernel_rfl) (by kernel_rfl) (fun hG nV w h => coversF_calls  (rangeF (IntKind.i64.wrap (0 - b.rule)) b.rule) (listR b on) w  ) ?_
  refine WPO_nil ?_
  refine WP_cond ((coversF (rangeF (IntKind.i64.wrap (0 - b.rule)) b.rule) (listR b on))) (by kernel_rfl) (fun hc2 => ?_) (fun hc2 => ?_)
  · refine WP_seq (WP_region (WPO_all tt_ok (by kernel_rfl) ?_))
    refine WP_ret ?_
    exact ⟨.s (.int .i64 2), by kernel_rfl, fun nV w' h => ⟨by rw [show levelR b on = 2 from by unfold levelR; simp only [hc2, cond_true, cond_false]]; rfl, h.bel⟩⟩
  refine WP_skip ?_
  refine WP_seq (WP_seq (WP_region (WPO_run tt_ok 2 (by kernel_rfl) ?_)))
  refine CALL 125 [.g [.int .i64 (rangeF (IntKind.i64.wrap (0 - b.rule)) b.rule).lo, .int .i64 (rangeF (IntKind.i64.wrap (0 - b.rule)) b.rule).hi], .g [.int .i64 (listR b on).lo, .int .i64 (listR b on).hi]] (.g [.int .i64 (meetF (rangeF (IntKind.i64.wrap (0 - b.rule)) b.rule) (listR b on)).lo, .int .i64 (meetF (rangeF (IntKind.i64.wrap (0 - b.rule)) b.rule) (listR b on)).hi]) [] (by kernel_rfl) (goes_of (by kernel_rfl)) (by kernel_rfl) (by kernel_rfl) (fun hG nV w h => meetF_calls  (rangeF (IntKind.i64.wrap (0 - b.rule)) b.rule) (listR b on) w  ) ?_
  refine WPO_all tt_ok (by kernel_rfl) ?_
  refine WP_seq (WP_region (WPO_all tt_ok (by kernel_rfl) ?_))
  refine WP_cond (decide ((meetF (rangeF (IntKind.i64.wrap (0 - b.rule)) b.rule) (listR b on)).lo ≤ (meetF (rangeF (IntKind.i64.wrap (0 - b.rule)) b.rule) (listR b on)).hi)) (by kernel_rfl) (fun hc4 => ?_) (fun hc4 => ?_)
  · have hc4' := of_decide_eq_true hc4
    refine WP_seq (WP_region (WPO_all tt_ok (by kernel_rfl) ?_))
    refine WP_ret ?_
    exact ⟨.s (.int .i64 1), by kernel_rfl, fun nV w' h => ⟨by rw [show levelR b on = 1 from by unfold levelR; simp only [hc2, hc4, cond_true, cond_false]]; rfl, h.bel⟩⟩
  have hc4' := of_decide_eq_false hc4
  refine WP_skip ?_
  refine WP_seq (WP_region (WPO_all tt_ok (by kernel_rfl) ?_))
  refine WP_ret ?_
  exact ⟨.s (.int .i64 0), by kernel_rfl, fun nV w' h => ⟨by rw [show levelR b on = 0 from by unfold levelR; simp only [hc2, hc4, cond_true, cond_false]]; rfl, h.bel⟩⟩
def askedR (b : DBook) (ok : Bool) : Int :=
  (bif (checkR b) != 0 then (checkR b) else (bif !ok then 31 else 0))
theorem askedR_calls (g0 : Value) (b : DBook) (ok : Bool) (w : World) (r0 : Reads w g0 3 b.loads encLoad zLoad)  : Calls Tryd.prog 106 #[.agg #[g0, iv b.rule, iv b.most], .bool ok] w fun e w' => e = .returned (iv (askedR b ok)) ∧ Below w.heap.size w w' := by
  refine calls_of_WP (cx := cx0 w (vn [g0]) 1) (n := vn [g0]) (vs := [.g [.ref 0, .int .i64 b.rule, .int .i64 b.most], .s (.bool ok)]) (hp := [(0, .sl .ro 61 3 b.loads encLoad zLoad)]) (nx := 1) tt_ok Tryd.func106 rfl rfl rfl (by kernel_rfl) (HSat_args (vn_one (by simp [r0.one])) (Nat.le_refl _) ⟨⟨⟨fun _ => rfl, by decide, r0⟩, (Nat.le_of_ble_eq_true rfl)⟩, trivial⟩) (vsOk (by kernel_rfl)) ?_
  have hl0 := Reads.len r0
  refine WP_seq (WP_region (WPO_all tt_ok (by kernel_rfl) ?_))
  refine WP_seq (WP_seq (WP_region (WPO_run tt_ok 1 (by kernel_rfl) ?_)))
  refine CALL 74 [.g [.ref 0, .int .i64 b.rule, .int .i64 b.most]] (.s (.int .i64 (checkR b))) [] (by kernel_rfl) (goes_of (by kernel_rfl)) (by kernel_rfl) (by kernel_rfl) (fun hG nV w h => checkR_calls (nV 0) b w (h.reads (id := 0) (kd := .ro) (e := 61) (by kernel_rfl)) ) ?_
  refine WPO_all tt_ok (by kernel_rfl) ?_
  refine WP_seq (WP_region (WPO_all tt_ok (by kernel_rfl) ?_))
  refine WP_cond ((checkR b) != 0) (by kernel_rfl) (fun hc2 => ?_) (fun hc2 => ?_)
  · have hc2' := hc2; try simp only [Bool.and_eq_true, Bool.or_eq_true, Bool.and_eq_false_iff, Bool.or_eq_false_iff, Bool.not_eq_true', Bool.not_eq_false', decide_eq_true_eq, decide_eq_false_iff_not, beq_iff_eq, beq_eq_false_iff_ne, bne_iff_ne, bne_eq_false_iff_eq, ne_eq] at hc2'
    refine WP_seq (WP_region (WPO_all tt_ok (by kernel_rfl) ?_))
    refine WP_ret ?_
    exact ⟨.s (.int .i64 (checkR b)), by kernel_rfl, fun nV w' h => ⟨by rw [show askedR b ok = (checkR b) from by unfold askedR; simp only [hc2, cond_true, cond_false]]; rfl, h.bel⟩⟩
  have hc2' := hc2; try simp only [Bool.and_eq_true, Bool.or_eq_true, Bool.and_eq_false_iff, Bool.or_eq_false_iff, Bool.not_eq_true', Bool.not_eq_false', decide_eq_true_eq, decide_eq_false_iff_not, beq_iff_eq, beq_eq_false_iff_ne, bne_iff_ne, bne_eq_false_iff_eq, ne_eq] at hc2'
  refine WP_skip ?_
  refine WP_seq (WP_seq (WP_region (WPO_all tt_ok (by kernel_rfl) ?_)))
  refine WP_cond (!ok) (by kernel_rfl) (fun hc4 => ?_) (fun hc4 => ?_)
  · have hc4' := hc4; try simp only [Bool.and_eq_true, Bool.or_eq_true, Bool.and_eq_false_iff, Bool.or_eq_false_iff, Bool.not_eq_true', Bool.not_eq_false', decide_eq_true_eq, decide_eq_false_iff_not, beq_iff_eq, beq_eq_false_iff_ne, bne_iff_ne, bne_eq_false_iff_eq, ne_eq] at hc4'
    refine WP_seq (WP_region (WPO_all tt_ok (by kernel_rfl) ?_))
    refine WP_ret ?_
    exact ⟨.s (.int .i64 31), by kernel_rfl, fun nV w' h => ⟨by rw [show askedR b ok = 31 from by unfold askedR; simp only [hc2, hc4, cond_true, cond_false]]; rfl, h.bel⟩⟩
  have hc4' := hc4; try simp only [Bool.and_eq_true, Bool.or_eq_true, Bool.and_eq_false_iff, Bool.or_eq_false_iff, Bool.not_eq_true', Bool.not_eq_false', decide_eq_true_eq, decide_eq_false_iff_not, beq_iff_eq, beq_eq_false_iff_ne, bne_iff_ne, bne_eq_false_iff_eq, ne_eq] at hc4'
  refine WP_skip ?_
  refine WP_seq (WP_region (WPO_all tt_ok (by kernel_rfl) ?_))
  refine WP_ret ?_
  exact ⟨.s (.int .i64 0), by kernel_rfl, fun nV w' h => ⟨by rw [show askedR b ok = 0 from by unfold askedR; simp only [hc2, hc4, cond_true, cond_false]]; rfl, h.bel⟩⟩
theorem asked_ok {b : DBook} {ok : Bool} (h : (askedR b ok != 0) = false) : ok = true := by
  unfold askedR at h
  cases ok with
  | true => rfl
  | false =>
    cases hc : (checkR b != 0) with
    | true => rw [hc, cond_true, hc] at h; cases h
    | false => rw [hc] at h; cases h
theorem isStowR_in {b : DBook} {on : List Place} (h : isStowR b on = true) (hb : b.loads.length ≤ 9223372036854775807) : ∀ x ∈ on, 0 ≤ x.load ∧ x.load < b.loads.length := by
  unfold isStowR at h
  rcases loopR_keep (c := isStowR_c1 b on) (b := isStowR_b1 b on) (N := on.length) (fun k _ => ∀ j, j < k → 0 ≤ (on.getD j zPlace).load ∧ (on.getD j zPlace).load < b.loads.length) (fun r => r = false) (fun k v hk _ => by simp only [isStowR_c1]; rw [decide_eq_true]; omega) (fun k v hk hp => by
    simp only [isStowR_b1]
    cases hc : isLoadR b (on.getD k zPlace).load with
    | false => right; exact ⟨_, rfl, rfl⟩
    | true =>
      have h1 : 0 ≤ (on.getD k zPlace).load ∧ (on.getD k zPlace).load < b.loads.length := by
        simp only [isLoadR, insideF, Bool.and_eq_true, decide_eq_true_eq] at hc
        rw [wrapI (by omega) (by omega)] at hc; omega
      rw [Bool.cond_eq_ite]
      split
      · right; exact ⟨_, rfl, rfl⟩
      · left
        refine ⟨_, rfl, fun j hj => ?_⟩
        by_cases e : j = k
        · subst e; exact h1
        · exact hp j (by omega)) [] (fun j hj => absurd hj (Nat.not_lt_zero j)) with ⟨v, e, hp⟩ | ⟨r, e, hf⟩
  · intro x hx
    obtain ⟨j, hj, rfl⟩ := List.mem_iff_getElem.1 hx
    have := hp j hj
    rwa [List.getD_eq_getElem?_getD, List.getElem?_eq_getElem hj] at this
  · rw [e] at h; simp only at h; rw [hf] at h; cases h
def ListR (b : DBook) (on : List Place) : Span × Int :=
  (bif (askedR b (isStowR b on)) != 0 then ((⟨0, 0⟩ : Span), (askedR b (isStowR b on))) else ((listR b on), 0))
theorem ListR_calls (g0 g1 : Value) (b : DBook) (on : List Place) (w : World) (r0 : Reads w g0 3 b.loads encLoad zLoad) (r1 : Reads w g1 2 on encPlace zPlace) (hlo : on.length * 16 ≤ 140737488355328) : Calls Tryd.prog 73 #[.agg #[g0, iv b.rule, iv b.most], g1] w fun e w' => e = .returned (.tuple #[.agg #[iv (ListR b on).1.lo, iv (ListR b on).1.hi], iv (ListR b on).2]) ∧ Below w.heap.size w w' := by
  refine calls_of_WP (cx := cx0 w (vn [g0, g1]) 2) (n := vn [g0, g1]) (vs := [.g [.ref 0, .int .i64 b.rule, .int .i64 b.most], .s (.ref 1)]) (hp := [(0, .sl .ro 61 3 b.loads encLoad zLoad), (1, .sl .ro 65 2 on encPlace zPlace)]) (nx := 2) tt_ok Tryd.func73 rfl rfl rfl (by kernel_rfl) (HSat_args (vn_one (by simp [r0.one, r1.one])) (Nat.le_refl _) ⟨⟨⟨fun _ => rfl, by decide, r0⟩, (Nat.le_of_ble_eq_true rfl)⟩, ⟨⟨fun _ => rfl, by decide, r1⟩, (Nat.le_of_ble_eq_true rfl)⟩, trivial⟩) (vsOk (by kernel_rfl)) ?_
  have hl0 := Reads.len r0
  have hl1 := Reads.len r1
  refine WP_seq (WP_region (WPO_all tt_ok (by kernel_rfl) ?_))
  refine WP_seq (WP_seq (WP_draw (by kernel_rfl) (by kernel_rfl) ?_))
  refine WPQ_run tt_ok 3 (by kernel_rfl) ?_
  refine QCALL 107 [.g [.ref 0, .int .i64 b.rule, .int .i64 b.most], .s (.ref 1)] (.s (.bool (isStowR b on))) [] (by kernel_rfl) (goes_of (by kernel_rfl)) (by kernel_rfl) (by kernel_rfl) (fun hG nV w h => isStowR_calls (nV 0) (nV 1) b on w (h.reads (id := 0) (kd := .ro) (e := 61) (by kernel_rfl)) (h.reads (id := 1) (kd := .ro) (e := 65) (by kernel_rfl)) (by first | assumption | omega | exact isStowR_in (asked_ok (by assumption)) (by omega) | exact (fun x hx => isStowR_in (asked_ok (by assumption)) (by omega) x (List.mem_of_mem_take (by simpa [cut] using hx))))) ?_
  refine QCALL 106 [.g [.ref 0, .int .i64 b.rule, .int .i64 b.most], .s (.bool (isStowR b on))] (.s (.int .i64 (askedR b (isStowR b on)))) [] (by kernel_rfl) (goes_of (by kernel_rfl)) (by kernel_rfl) (by kernel_rfl) (fun hG nV w h => askedR_calls (nV 0) b (isStowR b on) w (h.reads (id := 0) (kd := .ro) (e := 61) (by kernel_rfl)) ) ?_
  refine WPQ_all tt_ok (by kernel_rfl) ?_
  refine WP_seq (WP_region (WPO_all tt_ok (by kernel_rfl) ?_))
  refine WP_cond ((askedR b (isStowR b on)) != 0) (by kernel_rfl) (fun hc2 => ?_) (fun hc2 => ?_)
  · have hc2' := hc2; try simp only [Bool.and_eq_true, Bool.or_eq_true, Bool.and_eq_false_iff, Bool.or_eq_false_iff, Bool.not_eq_true', Bool.not_eq_false', decide_eq_true_eq, decide_eq_false_iff_not, beq_iff_eq, beq_eq_false_iff_ne, bne_iff_ne, bne_eq_false_iff_eq, ne_eq] at hc2'
    refine WP_seq (WP_region (WPO_all tt_ok (by kernel_rfl) ?_))
    refine WP_ret ?_
    exact ⟨.t [(true, [.int .i64 0, .int .i64 0]), (false, [.int .i64 (askedR b (isStowR b on))])], by kernel_rfl, fun nV w' h => ⟨by rw [show ListR b on = ((⟨0, 0⟩ : Span), (askedR b (isStowR b on))) from by unfold ListR; simp only [hc2, cond_true, cond_false]]; rfl, h.bel⟩⟩
  have hc2' := hc2; try simp only [Bool.and_eq_true, Bool.or_eq_true, Bool.and_eq_false_iff, Bool.or_eq_false_iff, Bool.not_eq_true', Bool.not_eq_false', decide_eq_true_eq, decide_eq_false_iff_not, beq_iff_eq, beq_eq_false_iff_ne, bne_iff_ne, bne_eq_false_iff_eq, ne_eq] at hc2'
  refine WP_skip ?_
  refine WP_seq (WP_region (WPO_run tt_ok 2 (by kernel_rfl) ?_))
  refine CALL 108 [.g [.ref 0, .int .i64 b.rule, .int .i64 b.most], .s (.ref 1)] (.g [.int .i64 (listR b on).lo, .int .i64 (listR b on).hi]) [] (by kernel_rfl) (goes_of (by kernel_rfl)) (by kernel_rfl) (by kernel_rfl) (fun hG nV w h => listR_calls (nV 0) (nV 1) b on w (h.reads (id := 0) (kd := .ro) (e := 61) (by kernel_rfl)) (h.reads (id := 1) (kd := .ro) (e := 65) (by kernel_rfl)) (by first | assumption | omega | exact isStowR_in (asked_ok (by assumption)) (by omega) | exact (fun x hx => isStowR_in (asked_ok (by assumption)) (by omega) x (List.mem_of_mem_take (by simpa [cut] using hx))))) ?_
  refine WPO_all tt_ok (by kernel_rfl) ?_
  refine WP_ret ?_
  exact ⟨.t [(true, [.int .i64 (listR b on).lo, .int .i64 (listR b on).hi]), (false, [.int .i64 0])], by kernel_rfl, fun nV w' h => ⟨by rw [show ListR b on = ((listR b on), 0) from by unfold ListR; simp only [hc2, cond_true, cond_false]]; rfl, h.bel⟩⟩
def LevelR (b : DBook) (on : List Place) : Int × Int :=
  (bif (askedR b (isStowR b on)) != 0 then (0, (askedR b (isStowR b on))) else ((levelR b on), 0))
theorem LevelR_calls (g0 g1 : Value) (b : DBook) (on : List Place) (w : World) (r0 : Reads w g0 3 b.loads encLoad zLoad) (r1 : Reads w g1 2 on encPlace zPlace) (hlo : on.length * 16 ≤ 140737488355328) : Calls Tryd.prog 75 #[.agg #[g0, iv b.rule, iv b.most], g1] w fun e w' => e = .returned (.tuple #[iv (LevelR b on).1, iv (LevelR b on).2]) ∧ Below w.heap.size w w' := by
  refine calls_of_WP (cx := cx0 w (vn [g0, g1]) 2) (n := vn [g0, g1]) (vs := [.g [.ref 0, .int .i64 b.rule, .int .i64 b.most], .s (.ref 1)]) (hp := [(0, .sl .ro 61 3 b.loads encLoad zLoad), (1, .sl .ro 65 2 on encPlace zPlace)]) (nx := 2) tt_ok Tryd.func75 rfl rfl rfl (by kernel_rfl) (HSat_args (vn_one (by simp [r0.one, r1.one])) (Nat.le_refl _) ⟨⟨⟨fun _ => rfl, by decide, r0⟩, (Nat.le_of_ble_eq_true rfl)⟩, ⟨⟨fun _ => rfl, by decide, r1⟩, (Nat.le_of_ble_eq_true rfl)⟩, trivial⟩) (vsOk (by kernel_rfl)) ?_
  have hl0 := Reads.len r0
  have hl1 := Reads.len r1
  refine WP_seq (WP_region (WPO_all tt_ok (by kernel_rfl) ?_))
  refine WP_seq (WP_seq (WP_draw (by kernel_rfl) (by kernel_rfl) ?_))
  refine WPQ_run tt_ok 3 (by kernel_rfl) ?_
  refine QCALL 107 [.g [.ref 0, .int .i64 b.rule, .int .i64 b.most], .s (.ref 1)] (.s (.bool (isStowR b on))) [] (by kernel_rfl) (goes_of (by kernel_rfl)) (by kernel_rfl) (by kernel_rfl) (fun hG nV w h => isStowR_calls (nV 0) (nV 1) b on w (h.reads (id := 0) (kd := .ro) (e := 61) (by kernel_rfl)) (h.reads (id := 1) (kd := .ro) (e := 65) (by kernel_rfl)) (by first | assumption | omega | exact isStowR_in (asked_ok (by assumption)) (by omega) | exact (fun x hx => isStowR_in (asked_ok (by assumption)) (by omega) x (List.mem_of_mem_take (by simpa [cut] using hx))))) ?_
  refine QCALL 106 [.g [.ref 0, .int .i64 b.rule, .int .i64 b.most], .s (.bool (isStowR b on))] (.s (.int .i64 (askedR b (isStowR b on)))) [] (by kernel_rfl) (goes_of (by kernel_rfl)) (by kernel_rfl) (by kernel_rfl) (fun hG nV w h => askedR_calls (nV 0) b (isStowR b on) w (h.reads (id := 0) (kd := .ro) (e := 61) (by kernel_rfl)) ) ?_
  refine WPQ_all tt_ok (by kernel_rfl) ?_
  refine WP_seq (WP_region (WPO_all tt_ok (by kernel_rfl) ?_))
  refine WP_cond ((askedR b (isStowR b on)) != 0) (by kernel_rfl) (fun hc2 => ?_) (fun hc2 => ?_)
  · have hc2' := hc2; try simp only [Bool.and_eq_true, Bool.or_eq_true, Bool.and_eq_false_iff, Bool.or_eq_false_iff, Bool.not_eq_true', Bool.not_eq_false', decide_eq_true_eq, decide_eq_false_iff_not, beq_iff_eq, beq_eq_false_iff_ne, bne_iff_ne, bne_eq_false_iff_eq, ne_eq] at hc2'
    refine WP_seq (WP_region (WPO_all tt_ok (by kernel_rfl) ?_))
    refine WP_ret ?_
    exact ⟨.t [(false, [.int .i64 0]), (false, [.int .i64 (askedR b (isStowR b on))])], by kernel_rfl, fun nV w' h => ⟨by rw [show LevelR b on = (0, (askedR b (isStowR b on))) from by unfold LevelR; simp only [hc2, cond_true, cond_false]]; rfl, h.bel⟩⟩
  have hc2' := hc2; try simp only [Bool.and_eq_true, Bool.or_eq_true, Bool.and_eq_false_iff, Bool.or_eq_false_iff, Bool.not_eq_true', Bool.not_eq_false', decide_eq_true_eq, decide_eq_false_iff_not, beq_iff_eq, beq_eq_false_iff_ne, bne_iff_ne, bne_eq_false_iff_eq, ne_eq] at hc2'
  refine WP_skip ?_
  refine WP_seq (WP_region (WPO_run tt_ok 2 (by kernel_rfl) ?_))
  refine CALL 109 [.g [.ref 0, .int .i64 b.rule, .int .i64 b.most], .s (.ref 1)] (.s (.int .i64 (levelR b on))) [] (by kernel_rfl) (goes_of (by kernel_rfl)) (by kernel_rfl) (by kernel_rfl) (fun hG nV w h => levelR_calls (nV 0) (nV 1) b on w (h.reads (id := 0) (kd := .ro) (e := 61) (by kernel_rfl)) (h.reads (id := 1) (kd := .ro) (e := 65) (by kernel_rfl)) (by first | assumption | omega | exact isStowR_in (asked_ok (by assumption)) (by omega) | exact (fun x hx => isStowR_in (asked_ok (by assumption)) (by omega) x (List.mem_of_mem_take (by simpa [cut] using hx))))) ?_
  refine WPO_all tt_ok (by kernel_rfl) ?_
  refine WP_ret ?_
  exact ⟨.t [(false, [.int .i64 (levelR b on)]), (false, [.int .i64 0])], by kernel_rfl, fun nV w' h => ⟨by rw [show LevelR b on = ((levelR b on), 0) from by unfold LevelR; simp only [hc2, cond_true, cond_false]]; rfl, h.bel⟩⟩
def TiltsR_c1 (b : DBook) (on : List Place) (k1 : Nat) : Unit → Bool := fun _ => decide ((k1 : Int) < (on.length : Int))
def TiltsR_b1 (b : DBook) (on : List Place) (k1 : Nat) : Unit → Bd Unit (Int × Int) := fun _ => (bif decide ((levelR b (cut on 0 (IntKind.i64.wrap ((k1 : Int) + 1)))) < 2) then .ret ((k1 : Int), 0) else .go ())
def TiltsR (b : DBook) (on : List Place) : Int × Int :=
  (bif (askedR b (isStowR b on)) != 0 then (0, (askedR b (isStowR b on))) else (match loopR (TiltsR_c1 b on) (TiltsR_b1 b on) on.length 0 () with | .brk () => (0, 4) | .ret r => r))
theorem TiltsR_calls (g0 g1 : Value) (b : DBook) (on : List Place) (w : World) (r0 : Reads w g0 3 b.loads encLoad zLoad) (r1 : Reads w g1 2 on encPlace zPlace) (hlo : on.length * 16 ≤ 140737488355328) : Calls Tryd.prog 76 #[.agg #[g0, iv b.rule, iv b.most], g1] w fun e w' => e = .returned (.tuple #[iv (TiltsR b on).1, iv (TiltsR b on).2]) ∧ Below w.heap.size w w' := by
  refine calls_of_WP (cx := cx0 w (vn [g0, g1]) 2) (n := vn [g0, g1]) (vs := [.g [.ref 0, .int .i64 b.rule, .int .i64 b.most], .s (.ref 1)]) (hp := [(0, .sl .ro 61 3 b.loads encLoad zLoad), (1, .sl .ro 65 2 on encPlace zPlace)]) (nx := 2) tt_ok Tryd.func76 rfl rfl rfl (by kernel_rfl) (HSat_args (vn_one (by simp [r0.one, r1.one])) (Nat.le_refl _) ⟨⟨⟨fun _ => rfl, by decide, r0⟩, (Nat.le_of_ble_eq_true rfl)⟩, ⟨⟨fun _ => rfl, by decide, r1⟩, (Nat.le_of_ble_eq_true rfl)⟩, trivial⟩) (vsOk (by kernel_rfl)) ?_
  have hl0 := Reads.len r0
  have hl1 := Reads.len r1
  refine WP_seq (WP_region (WPO_all tt_ok (by kernel_rfl) ?_))
  refine WP_seq (WP_seq (WP_draw (by kernel_rfl) (by kernel_rfl) ?_))
  refine WPQ_run tt_ok 3 (by kernel_rfl) ?_
  refine QCALL 107 [.g [.ref 0, .int .i64 b.rule, .int .i64 b.most], .s (.ref 1)] (.s (.bool (isStowR b on))) [] (by kernel_rfl) (goes_of (by kernel_rfl)) (by kernel_rfl) (by kernel_rfl) (fun hG nV w h => isStowR_calls (nV 0) (nV 1) b on w (h.reads (id := 0) (kd := .ro) (e := 61) (by kernel_rfl)) (h.reads (id := 1) (kd := .ro) (e := 65) (by kernel_rfl)) (by first | assumption | omega | exact isStowR_in (asked_ok (by assumption)) (by omega) | exact (fun x hx => isStowR_in (asked_ok (by assumption)) (by omega) x (List.mem_of_mem_take (by simpa [cut] using hx))))) ?_
  refine QCALL 106 [.g [.ref 0, .int .i64 b.rule, .int .i64 b.most], .s (.bool (isStowR b on))] (.s (.int .i64 (askedR b (isStowR b on)))) [] (by kernel_rfl) (goes_of (by kernel_rfl)) (by kernel_rfl) (by kernel_rfl) (fun hG nV w h => askedR_calls (nV 0) b (isStowR b on) w (h.reads (id := 0) (kd := .ro) (e := 61) (by kernel_rfl)) ) ?_
  refine WPQ_all tt_ok (by kernel_rfl) ?_
  refine WP_seq (WP_region (WPO_all tt_ok (by kernel_rfl) ?_))
  refine WP_cond ((askedR b (isStowR b on)) != 0) (by kernel_rfl) (fun hc2 => ?_) (fun hc2 => ?_)
  · have hc2' := hc2; try simp only [Bool.and_eq_true, Bool.or_eq_true, Bool.and_eq_false_iff, Bool.or_eq_false_iff, Bool.not_eq_true', Bool.not_eq_false', decide_eq_true_eq, decide_eq_false_iff_not, beq_iff_eq, beq_eq_false_iff_ne, bne_iff_ne, bne_eq_false_iff_eq, ne_eq] at hc2'
    refine WP_seq (WP_region (WPO_all tt_ok (by kernel_rfl) ?_))
    refine WP_ret ?_
    exact ⟨.t [(false, [.int .i64 0]), (false, [.int .i64 (askedR b (isStowR b on))])], by kernel_rfl, fun nV w' h => ⟨by rw [show TiltsR b on = (0, (askedR b (isStowR b on))) from by unfold TiltsR; simp only [hc2, cond_true, cond_false]]; rfl, h.bel⟩⟩
  have hc2' := hc2; try simp only [Bool.and_eq_true, Bool.or_eq_true, Bool.and_eq_false_iff, Bool.or_eq_false_iff, Bool.not_eq_true', Bool.not_eq_false', decide_eq_true_eq, decide_eq_false_iff_not, beq_iff_eq, beq_eq_false_iff_ne, bne_iff_ne, bne_eq_false_iff_eq, ne_eq] at hc2'
  refine WP_skip ?_
  refine WP_seq (WP_seq (WP_region (WPO_all tt_ok (by kernel_rfl) ?_)))
  refine WP_loopA (ρ := Int × Int) (TiltsR_c1 b on) (TiltsR_b1 b on) on.length () (fun k : Nat => (k : Int)) (fun (ci : Int) (zz : Unit) => ⟨30, [(7, [], .s (.int .i64 ci)), (2, [], .s (.p 2 0)), (1, [], .s (.ref 1))], [(2, .box 24 [.ref 0, .int .i64 b.rule, .int .i64 b.most]), (0, .sl .ro 61 3 b.loads encLoad zLoad), (1, .sl .ro 65 2 on encPlace zPlace)], 3, []⟩) (fun zz : Unit => ⟨30, [], [(2, .box 24 [.ref 0, .int .i64 b.rule, .int .i64 b.most]), (0, .sl .ro 61 3 b.loads encLoad zLoad), (1, .sl .ro 65 2 on encPlace zPlace)], 3, []⟩) (fun k zz => True) trivial ⟨0, rfl, Le_sel (ts := [7, 2, 1]) (ids := [2, 0, 1]) (nx := 3) (by kernel_rfl)⟩ ?_ ?_
  · intro k1 zz hn1 hp1 hi1 Q1 hq1 ho1
    refine WP_seq (WP_seq (WP_region (WPO_all tt_ok (by kernel_rfl) ?_)))
    refine WP_cond (decide ((k1 : Int) < (on.length : Int))) (by kernel_rfl) (fun hc3 => ?_) (fun hc3 => ?_)
    rotate_left
    · refine WP_exit ?_
      show Q1 (.exit 0) _
      exact LA_exit hq1 () (loopR_end hi1 hc3) ⟨k1, hn1, hp1⟩ (Le_sel (ts := []) (ids := [2, 0, 1]) (nx := 3) (by kernel_rfl))
    have hc3' := of_decide_eq_true hc3
    have hk1 : k1 < on.length := by omega
    refine WP_skip ?_
    refine WP_seq (WP_block ?_)
    refine WP_seq (WP_drawH [] (by kernel_rfl) (by kernel_rfl) ?_)
    refine H_run tt_ok [0, 1, 2, 3] (f' := 3) (by kernel_rfl) (by kernel_rfl) (by kernel_rfl) ?_
    refine H_step 4 (by kernel_rfl) (by kernel_rfl) (fun hfz cx' hx1 hx2 => ?_)
    refine SLC tt_ok 1 on.length .ro 65 2 0 (IntKind.i64.wrap ((k1 : Int) + 1)) none .ro (some 26) (by kernel_rfl) (by kernel_rfl) (by rw [wrapI (by omega) (by omega)]; exact ⟨by omega, by omega, by omega⟩) (.inl ⟨rfl, fun m h => by cases h⟩) ?_
    refine WPO_end (by kernel_rfl) ⟨rfl, (hfz.fnds [2, 0, 1] (by kernel_rfl) ⟨by kernel_rfl, by kernel_rfl, by kernel_rfl, trivial⟩ (by kernel_rfl)), ?_⟩
    refine H_step 5 (by kernel_rfl) (by kernel_rfl) (fun hfz cx' hx1 hx2 => ?_)
    refine CALL 109 [.g [.ref 0, .int .i64 b.rule, .int .i64 b.most], .s (.ref 3)] (.s (.int .i64 (levelR b (cut on 0 (IntKind.i64.wrap ((k1 : Int) + 1)))))) [] (by kernel_rfl) (goes_of (by kernel_rfl)) (by kernel_rfl) (by kernel_rfl) (fun hG nV w h => levelR_calls (nV 0) (nV 3) b (cut on 0 (IntKind.i64.wrap ((k1 : Int) + 1))) w (h.reads (id := 0) (kd := .ro) (e := 61) (by kernel_rfl)) (h.reads (id := 3) (kd := .ro) (e := 65) (by kernel_rfl)) (by first | assumption | omega | exact isStowR_in (asked_ok (by assumption)) (by omega) | exact (fun x hx => isStowR_in (asked_ok (by assumption)) (by omega) x (List.mem_of_mem_take (by simpa [cut] using hx))))) ?_
    refine WPO_end (by kernel_rfl) ⟨rfl, (hfz.fnds [2, 0, 1] (by kernel_rfl) ⟨by kernel_rfl, by kernel_rfl, by kernel_rfl, trivial⟩ (by kernel_rfl)), ?_⟩
    refine H_run tt_ok [6] (f' := 0) (by kernel_rfl) (by kernel_rfl) (by kernel_rfl) ?_
    refine H_done (by kernel_rfl) ?_
    refine WP_cond (decide ((levelR b (cut on 0 (IntKind.i64.wrap ((k1 : Int) + 1)))) < 2)) (by kernel_rfl) (fun hc5 => ?_) (fun hc5 => ?_)
    · have hc5' := of_decide_eq_true hc5
      refine WP_seq (WP_region (WPO_all tt_ok (by kernel_rfl) ?_))
      refine WP_ret ?_
      show Q1 .ret _
      refine LA_ret hq1 ?_
      have he6 := loopR_ret (r := ((k1 : Int), 0)) hi1 hk1 hc3 (by unfold TiltsR_b1; simp only [hc5, cond_true, cond_false])
      exact ⟨.t [(false, [.int .i64 (k1 : Int)]), (false, [.int .i64 0])], by kernel_rfl, fun nV w' h => ⟨by rw [show TiltsR b on = ((k1 : Int), 0) from by unfold TiltsR; simp only [hc2, he6, cond_true, cond_false]]; rfl, h.bel⟩⟩
    have hc5' := of_decide_eq_false hc5
    refine WP_skip ?_
    refine WP_region (WPO_all tt_ok (by kernel_rfl) ?_)
    show Q1 .normal _
    exact LA_go hq1 (ci := IntKind.i64.wrap ((k1 : Int) + 1)) () hk1 (by show _ = ((k1 + 1 : Nat) : Int); rw [wrapI (by omega) (by omega)]; omega) (loopR_go hi1 hk1 hc3 (by unfold TiltsR_b1; simp only [hc5, cond_true, cond_false])) trivial (Le_sel (ts := [7, 2, 1]) (ids := [2, 0, 1]) (nx := 3) (by kernel_rfl))
  intro zz hR1 hP1 s' hl
  refine WP_le hl ?_
  clear hl s'
  refine WP_seq (WP_region (WPO_all tt_ok (by kernel_rfl) ?_))
  refine WP_ret ?_
  exact ⟨.t [(false, [.int .i64 0]), (false, [.int .i64 4])], by kernel_rfl, fun nV w' h => ⟨by rw [show TiltsR b on = (0, 4) from by unfold TiltsR; simp only [hc2, hR1, cond_true, cond_false]]; rfl, h.bel⟩⟩
end Go.Proofs.YthfnedbpmdkdjaaDoor.D
namespace Go.Proofs.YthfnedbpmdkdjaaDoor.D
open Go Go.RowKit Go.Proofs.YthfnedbpmdkdjaaDoor.Eng Go.Proofs.YthfnedbpmdkdjaaDoor.Cm
set_option linter.unusedVariables false
set_option linter.unusedSimpArgs false
set_option linter.unusedSectionVars false
theorem keptLoads_self (l : List Load) : keptLoadsF l l = true := by
  unfold keptLoadsF
  rw [loopR_all (fun _ => true) (fun k v hk => by simp only [keptLoadsF_c1]; rw [decide_eq_true (by omega)]; simp) (fun k hk => by simp only [keptLoadsF_b1]; rw [beq_self_eq_true])]
  simp
theorem keptPlaces_self (l : List Place) : keptPlacesF l l = true := by
  unfold keptPlacesF
  rw [loopR_all (fun _ => true) (fun k v hk => by simp only [keptPlacesF_c1]; rw [decide_eq_true (by omega)]; simp) (fun k hk => by simp only [keptPlacesF_b1]; rw [beq_self_eq_true, beq_self_eq_true]; rfl)]
  simp
theorem keptDeck_self (b : DBook) : keptDeckF b b = true := by
  unfold keptDeckF
  rw [keptLoads_self, beq_self_eq_true, beq_self_eq_true]; rfl
def okLoadR (x : Load) : Bool := ((validF x.w 1 60) && (decide ((IntKind.i64.wrap (x.w.hi - x.w.lo)) ≤ 4))) && (insideF x.lanes 1 7)
theorem okLoadR_iff {x : Load} : okLoadR x = true ↔ (1 ≤ x.w.lo ∧ x.w.lo ≤ x.w.hi ∧ x.w.hi ≤ 60 ∧ x.w.hi - x.w.lo ≤ 4) ∧ (1 ≤ x.lanes ∧ x.lanes ≤ 7) := by
  unfold okLoadR
  simp only [validF, insideF, Bool.and_eq_true, decide_eq_true_eq]
  constructor
  · rintro ⟨⟨⟨⟨h1, h2⟩, h3⟩, h4⟩, h5⟩
    rw [wrapI (by omega) (by omega)] at h4
    omega
  · rintro ⟨⟨h1, h2, h3, h4⟩, h5⟩
    rw [wrapI (by omega) (by omega)]
    omega
theorem checkR_eq (b : DBook) : checkR b = bif ((((insideF (b.loads.length : Int) 1 5) && (insideF b.rule 0 30)) && (insideF b.most 1 200)) && (List.range b.loads.length).all fun k => okLoadR (b.loads.getD k zLoad)) then 0 else 30 := by
  unfold checkR
  rw [loopR_all (fun k => okLoadR (b.loads.getD k zLoad)) (fun k v hk => by simp only [checkR_c1]; rw [decide_eq_true (by omega), Bool.and_true]) (fun k hk => rfl)]
  simp only
  cases (_ && (List.range b.loads.length).all fun k => okLoadR (b.loads.getD k zLoad)) <;> rfl
theorem checkR_valid {b : DBook} : checkR b = 0 ↔ ValidD b := by
  rw [checkR_eq]
  constructor
  · intro h
    have h2 : ((((insideF (b.loads.length : Int) 1 5) && (insideF b.rule 0 30)) && (insideF b.most 1 200)) && (List.range b.loads.length).all fun k => okLoadR (b.loads.getD k zLoad)) = true := by
      cases hc : ((((insideF (b.loads.length : Int) 1 5) && (insideF b.rule 0 30)) && (insideF b.most 1 200)) && (List.range b.loads.length).all fun k => okLoadR (b.loads.getD k zLoad)) with
      | true => rfl
      | false => rw [hc] at h; cases h
    simp only [insideF, Bool.and_eq_true, decide_eq_true_eq, List.all_eq_true, List.mem_range] at h2
    refine ⟨by omega, by omega, by omega, fun x hx => ?_⟩
    obtain ⟨k, hk, rfl⟩ := List.mem_iff_getElem.1 hx
    have := okLoadR_iff.1 (h2.2 k hk)
    rwa [List.getD_eq_getElem?_getD, List.getElem?_eq_getElem hk] at this
  · intro h
    have h2 : ((((insideF (b.loads.length : Int) 1 5) && (insideF b.rule 0 30)) && (insideF b.most 1 200)) && (List.range b.loads.length).all fun k => okLoadR (b.loads.getD k zLoad)) = true := by
      have h1 := h.n
      have h3 := h.rule
      have h4 := h.most
      simp only [insideF, Bool.and_eq_true, decide_eq_true_eq, List.all_eq_true, List.mem_range]
      exact ⟨⟨⟨by omega, by omega⟩, by omega⟩, fun k hk => okLoadR_iff.2 (h.load hk)⟩
    rw [h2]; rfl
theorem check_same (b : DBook) : checkD b = checkR b := by
  rcases checkD_two b with h | h
  · rw [h, checkR_valid.2 (checkD_valid.1 h)]
  · rw [h, checkR_eq]
    cases hc : ((((insideF (b.loads.length : Int) 1 5) && (insideF b.rule 0 30)) && (insideF b.most 1 200)) && (List.range b.loads.length).all fun k => okLoadR (b.loads.getD k zLoad)) with
    | false => rfl
    | true =>
      have h2 : checkR b = 0 := by rw [checkR_eq, hc]; rfl
      rw [checkD_valid.2 (checkR_valid.1 h2)] at h; cases h
theorem member_lane (x : Load) (l : Int) : memberF x.lanes l = laneB x l := rfl
theorem isStowR_iff {b : DBook} {on : List Place} (hv : ValidD b) (hlen : on.length ≤ 9223372036854775806) : isStowR b on = true ↔ StowOk b on := by
  have hn := hv.n
  have hld : ∀ n : Int, isLoadR b n = decide (0 ≤ n ∧ n < b.loads.length) := fun n => by
    unfold isLoadR insideF
    rw [wrapI (by omega) (by omega), Bool.eq_iff_iff]
    simp only [Bool.and_eq_true, decide_eq_true_eq]; omega
  have hkey := loopR_keep (c := isStowR_c1 b on) (b := isStowR_b1 b on) (N := on.length) (fun k v => v = (on.take k).map (·.load) ∧ (∀ x ∈ on.take k, isPl b x.load x.lane = true) ∧ ((on.take k).map (·.load)).Nodup) (fun r => r = false ∧ ¬ StowOk b on) (fun k v hk hp => by simp only [isStowR_c1]; rw [decide_eq_true]; omega) (fun k v hk hp => by
    have hm := getD_mem (z := zPlace) hk
    have hts := take_map_snoc (fun x : Place => x.load) zPlace hk
    obtain ⟨hp1, hp2, hp3⟩ := hp
    have hpe : isPl b (on.getD k zPlace).load (on.getD k zPlace).lane = ((isLoadR b (on.getD k zPlace).load && insideF (on.getD k zPlace).lane 0 2) && memberF (b.loads.getD (on.getD k zPlace).load.toNat zLoad).lanes (on.getD k zPlace).lane) := by
      rw [hld, member_lane]
      unfold isPl insideF
      rw [Bool.eq_iff_iff]
      simp only [Bool.and_eq_true, decide_eq_true_eq]
      constructor
      · rintro ⟨⟨⟨⟨h1, h2⟩, h3⟩, h4⟩, h5⟩; exact ⟨⟨⟨h1, h2⟩, h3, by omega⟩, h5⟩
      · rintro ⟨⟨⟨h1, h2⟩, h3, h4⟩, h5⟩; exact ⟨⟨⟨⟨h1, h2⟩, h3⟩, by omega⟩, h5⟩
    have hcond : (((!(isLoadR b (on.getD k zPlace).load)) || (!(insideF (on.getD k zPlace).lane 0 2))) || (!(memberF (b.loads.getD (on.getD k zPlace).load.toNat zLoad).lanes (on.getD k zPlace).lane))) = !(isPl b (on.getD k zPlace).load (on.getD k zPlace).lane) := by
      rw [hpe, Bool.not_and, Bool.not_and]
    simp only [isStowR_b1]
    rw [hcond]
    cases hpl : isPl b (on.getD k zPlace).load (on.getD k zPlace).lane with
    | false => right; exact ⟨false, rfl, rfl, fun hok => by rw [hok.1 _ hm] at hpl; cases hpl⟩
    | true =>
      rw [Bool.not_true, Bool.false_or]
      rcases at_spec v (on.getD k zPlace).load with ⟨h1, h2⟩ | ⟨i, h1, h2, h3⟩
      · left
        rw [h1]
        rw [hp1] at h2
        refine ⟨_, rfl, ?_, fun x hx => ?_, ?_⟩
        · rw [grown_eq (by rw [hp1, List.length_map, List.length_take]; omega), hts, hp1]
        · rw [List.take_add_one, List.getElem?_eq_getElem hk] at hx
          rcases List.mem_append.1 hx with hx | hx
          · exact hp2 x hx
          · simp only [Option.toList_some, List.mem_singleton] at hx
            subst hx
            rw [List.getD_eq_getElem?_getD, List.getElem?_eq_getElem hk] at hpl
            exact hpl
        · rw [hts, List.nodup_append]
          refine ⟨hp3, by simp, fun a ha c hc e => ?_⟩
          rw [List.mem_singleton.1 hc] at e
          exact h2 (e ▸ ha)
      · right
        rw [h2, decide_eq_true (show (i : Int) ≥ 0 by omega), cond_true]
        refine ⟨false, rfl, rfl, fun hok => ?_⟩
        have hin : (on.getD k zPlace).load ∈ (on.take k).map (·.load) := by rw [← hp1, ← h3]; exact getD_mem h1
        have h2 : ((on.take (k + 1)).map (·.load)).Nodup := by
          rw [List.map_take]; exact hok.2.sublist (List.take_sublist _ _)
        rw [hts, List.nodup_append] at h2
        exact h2.2.2 _ hin _ (List.mem_singleton.2 rfl) rfl) [] ⟨rfl, fun x hx => by simp at hx, by simp⟩
  unfold isStowR
  rcases hkey with ⟨v, e, hp1, hp2, hp3⟩ | ⟨r, e, rfl, hq⟩
  · rw [e]
    rw [List.take_length] at hp2 hp3
    exact ⟨fun _ => ⟨hp2, hp3⟩, fun _ => rfl⟩
  · rw [e]
    exact ⟨fun h => (by cases h), fun h => absurd h hq⟩
theorem listR_eq {b : DBook} (hv : ValidD b) {on : List Place} (hpl : ∀ x ∈ on, isPl b x.load x.lane = true) (hlen : on.length ≤ 5) : listR b on = accD b on on.length := by
  unfold listR
  rcases loopR_keep (c := listR_c1 b on) (b := listR_b1 b on) (N := on.length) (fun k v => v = ((accD b on k).lo, (accD b on k).hi)) (fun _ => False) (fun k v hk _ => by obtain ⟨v1, v2⟩ := v; simp only [listR_c1]; rw [decide_eq_true]; omega) (fun k v hk hp => by
    subst hp
    refine .inl ⟨_, rfl, ?_⟩
    have hB := acc_bounds hv hpl hlen k (by omega)
    have hs := isPl_spec (hpl _ (getD_mem (z := zPlace) hk))
    have hw := (hv.load (k := (on.getD k zPlace).load.toNat) (by omega)).1
    rw [accD_succ hk]
    unfold stepD laneF
    by_cases e0 : (on.getD k zPlace).lane = 0
    · rw [if_pos e0, show ((on.getD k zPlace).lane == 0) = true from beq_iff_eq.2 e0, show ((on.getD k zPlace).lane == 2) = false from beq_eq_false_iff_ne.2 (by omega)]
      simp only [cond_true, cond_false]
      rfl
    · rw [if_neg e0, show ((on.getD k zPlace).lane == 0) = false from beq_eq_false_iff_ne.2 e0]
      by_cases e1 : (on.getD k zPlace).lane = 1
      · rw [if_pos e1, show ((on.getD k zPlace).lane == 2) = false from beq_eq_false_iff_ne.2 (by omega)]
        simp only [cond_false]
        rfl
      · rw [if_neg e1, show ((on.getD k zPlace).lane == 2) = true from beq_iff_eq.2 (by omega)]
        simp only [cond_true, cond_false, addedF, rangeF, starD]
        rw [wrapI (x := 0 - _) (by omega) (by omega), wrapI (x := 0 - _) (by omega) (by omega), wrapI (by omega) (by omega), wrapI (by omega) (by omega), wrapI (by omega) (by omega), wrapI (by omega) (by omega)]
        congr 1 <;> omega) ((pointF 0).lo, (pointF 0).hi) rfl with ⟨v, e, hp⟩ | ⟨r, e, hf⟩
  · rw [e, hp]
  · exact hf.elim
theorem covers_rule (r : Int) (l : Span) : coversF (rangeF (-r) r) l = decide (-r ≤ l.lo ∧ l.hi ≤ r) := by
  unfold coversF rangeF
  rw [Bool.eq_iff_iff, Bool.and_eq_true, decide_eq_true_eq, decide_eq_true_eq, decide_eq_true_eq]
theorem meet_rule (r : Int) (l : Span) : (decide ((meetF (rangeF (-r) r) l).lo ≤ (meetF (rangeF (-r) r) l).hi)) = decide (max (-r) l.lo ≤ min r l.hi) := by
  unfold meetF rangeF
  rw [mx_spec, mn_spec]
theorem levelR_eq {b : DBook} (hv : ValidD b) {on : List Place} (hpl : ∀ x ∈ on, isPl b x.load x.lane = true) (hlen : on.length ≤ 5) : levelR b on = levelD b (accD b on on.length) := by
  unfold levelR
  rw [listR_eq hv hpl hlen, rule_wrap hv]
  have hB := acc_bounds hv hpl hlen on.length (Nat.le_refl _)
  generalize accD b on on.length = l at *
  have hr := hv.rule
  rw [covers_rule, meet_rule]
  rcases level_cases hv hB.2.1 with ⟨e, h1⟩ | ⟨e, h1, h2⟩ | ⟨e, h1, h2⟩
  · rw [e, decide_eq_true h1]; rfl
  · rw [e, decide_eq_false h1, decide_eq_true (by omega)]; rfl
  · rw [e, decide_eq_false h1, decide_eq_false (by omega)]; rfl
theorem stow_len5 {b : DBook} (hv : ValidD b) {on : List Place} (h : StowOk b on) : on.length ≤ 5 := by
  have hn := hv.n
  have h1 : (on.map (·.load)).length ≤ ((List.range 5).map fun k : Nat => (k : Int)).length := List.Nodup.length_le_of_subset h.2 fun x hx => by
    obtain ⟨y, hy, rfl⟩ := List.mem_map.1 hx
    have := isPl_spec (h.1 y hy)
    exact List.mem_map.2 ⟨y.load.toNat, List.mem_range.2 (by omega), by omega⟩
  simpa using h1
theorem ask_same {b : DBook} (hv : ValidD b) {on : List Place} (hlen : on.length ≤ 9223372036854775806) : askedR b (isStowR b on) = askD b on := by
  have hn := hv.n
  unfold askedR askD
  rw [checkR_valid.2 hv]
  have : isStowR b on = isStowD b on := by rw [Bool.eq_iff_iff, isStowR_iff hv hlen, isStowD_iff (by omega)]
  rw [this]; rfl
theorem ask_ne {b : DBook} (hv : ValidD b) {on : List Place} (h : ¬ StowOk b on) : askD b on = 31 := by
  have hn := hv.n
  unfold askD
  rw [show isStowD b on = false from Bool.eq_false_iff.2 fun h2 => h ((isStowD_iff (by omega)).1 h2)]; rfl
theorem list_same (b : DBook) {on : List Place} (hlen : on.length ≤ 9223372036854775806) : listA b on = ListR b on := by
  unfold ListR
  rcases checkD_two b with h | h
  · have hv := checkD_valid.1 h
    rw [ask_same hv hlen]
    by_cases ho : StowOk b on
    · rw [listA_eq hv ho, ask_ok hv ho, last_acc, listR_eq hv ho.1 (stow_len5 hv ho)]; rfl
    · unfold listA
      rw [h, ask_ne hv ho]; rfl
  · unfold listA askedR
    rw [h, ← check_same, h]; rfl
theorem level_same (b : DBook) {on : List Place} (hlen : on.length ≤ 9223372036854775806) : levelA b on = LevelR b on := by
  unfold LevelR
  rcases checkD_two b with h | h
  · have hv := checkD_valid.1 h
    rw [ask_same hv hlen]
    by_cases ho : StowOk b on
    · rw [levelA_eq hv ho, ask_ok hv ho, last_acc, levelR_eq hv ho.1 (stow_len5 hv ho)]; rfl
    · unfold levelA
      rw [h, ask_ne hv ho]; rfl
  · unfold levelA askedR
    rw [h, ← check_same, h]; rfl
theorem tilts_same (b : DBook) {on : List Place} (hlen : on.length ≤ 9223372036854775806) : tiltsA b on = TiltsR b on := by
  unfold TiltsR
  rcases checkD_two b with h | h
  · have hv := checkD_valid.1 h
    rw [ask_same hv hlen]
    by_cases ho : StowOk b on
    · have h5 := stow_len5 hv ho
      have hlv : ∀ k, k < on.length → levelR b (cut on 0 (IntKind.i64.wrap ((k : Int) + 1))) = levelD b (accD b on (k + 1)) := fun k hk => by
        rw [wrapI (by omega) (by omega), show (k : Int) + 1 = ((k + 1 : Nat) : Int) by omega, cut_take, levelR_eq hv (fun x hx => ho.1 x (List.mem_of_mem_take hx)) (by rw [List.length_take]; omega), acc_take b on (by omega)]
      rw [tiltsA_eq hv ho, ask_ok hv ho, loopR_find (c := TiltsR_c1 b on) (b := TiltsR_b1 b on) (fun k => decide (levelD b (accD b on (k + 1)) < 2)) (fun k => ((k : Int), 0)) (fun k hk => by simp only [TiltsR_c1]; rw [decide_eq_true]; omega) (fun k hk => by simp only [TiltsR_b1]; rw [hlv k hk])]
      cases e : tiltQ b on with
      | none =>
        have : (List.range on.length).find? (fun k => decide (levelD b (accD b on (k + 1)) < 2)) = none := List.find?_eq_none.2 fun k hk h2 => by rw [tilt_no e k (List.mem_range.1 hk)] at h2; cases h2
        rw [this]; rfl
      | some y =>
        obtain ⟨i, h1, h2, h3, h4⟩ := tilt_first e
        cases hf : (List.range on.length).find? (fun k => decide (levelD b (accD b on (k + 1)) < 2)) with
        | none =>
          have := List.find?_eq_none.1 hf i (List.mem_range.2 h1)
          rw [h3] at this; exact absurd rfl this
        | some k =>
          have hk1 := List.mem_range.1 (List.mem_of_find?_eq_some hf)
          have hk2 := List.find?_some hf
          have hki : k = i := by
            rcases Nat.lt_trichotomy k i with h5 | h5 | h5
            · rw [h4 k h5] at hk2; cases hk2
            · exact h5
            · have hr := (List.find?_range_eq_some.1 hf).2.2 i h5
              rw [h3] at hr; cases hr
          subst hki
          show (y.1, (0 : Int)) = ((k : Int), 0)
          rw [h2]
    · unfold tiltsA
      rw [h, ask_ne hv ho]; rfl
  · unfold tiltsA askedR
    rw [h, ← check_same, h]; rfl
end Go.Proofs.YthfnedbpmdkdjaaDoor.D
namespace Go.Proofs.YthfnedbpmdkdjaaDoor.D
open Go Go.RowKit Go.Proofs.YthfnedbpmdkdjaaDoor.Eng Go.Proofs.YthfnedbpmdkdjaaDoor.Cm
set_option linter.unusedVariables false
set_option linter.unusedSimpArgs false
set_option linter.unusedSectionVars false
def deckListsL (own : DBook) (mine : List Place) (b : DBook) (on : List Place) : Bool :=
  (bif ((!((listA own mine).1.lo == (ListR b on).1.lo && (listA own mine).1.hi == (ListR b on).1.hi)) || ((listA own mine).2 != (ListR b on).2)) || ((checkD own) != (checkR b)) then false else (bif ((levelA own mine).1 != (LevelR b on).1) || ((levelA own mine).2 != (LevelR b on).2) then false else ((tiltsA own mine).1 == (TiltsR b on).1) && ((tiltsA own mine).2 == (TiltsR b on).2)))
theorem deckListsL_calls (g0 g1 g2 g3 : Value) (own : DBook) (mine : List Place) (b : DBook) (on : List Place) (w : World) (r0 : Reads w g0 3 own.loads encLoad zLoad) (r1 : Reads w g1 2 mine encPlace zPlace) (r2 : Reads w g2 3 b.loads encLoad zLoad) (r3 : Reads w g3 2 on encPlace zPlace) (hnb : NobodyAt w) (hla : LanesAt w) (hL1 : on.length * 16 ≤ 140737488355328) : Calls Tryd.prog 18 #[.agg #[g0, iv own.rule, iv own.most], g1, .agg #[g2, iv b.rule, iv b.most], g3] w fun e w' => e = .returned (.bool (deckListsL own mine b on)) ∧ Below w.heap.size w w' := by
  refine calls_of_WP (cx := cx0 w (vn [g0, g1, g2, g3]) 4) (n := vn [g0, g1, g2, g3]) (vs := [.g [.ref 0, .int .i64 own.rule, .int .i64 own.most], .s (.ref 1), .g [.ref 2, .int .i64 b.rule, .int .i64 b.most], .s (.ref 3)]) (hp := [(0, .sl .ro 61 3 own.loads encLoad zLoad), (1, .sl .ro 65 2 mine encPlace zPlace), (2, .sl .ro 61 3 b.loads encLoad zLoad), (3, .sl .ro 65 2 on encPlace zPlace), (4, .pf NobodyAt (· = 1)), (5, .pf LanesAt (· = 0))]) (nx := 6) tt_ok Tryd.func18 rfl rfl rfl (by kernel_rfl) (HSat_args (vn_one (by simp [r0.one, r1.one, r2.one, r3.one])) (by decide) ⟨⟨⟨fun _ => rfl, by decide, r0⟩, (Nat.le_of_ble_eq_true rfl)⟩, ⟨⟨fun _ => rfl, by decide, r1⟩, (Nat.le_of_ble_eq_true rfl)⟩, ⟨⟨fun _ => rfl, by decide, r2⟩, (Nat.le_of_ble_eq_true rfl)⟩, ⟨⟨fun _ => rfl, by decide, r3⟩, (Nat.le_of_ble_eq_true rfl)⟩, ⟨⟨hnb, fun w1 w2 h1 hw => (hw 1 rfl).trans h1, fun g hg => by cases hg; exact (Array.getElem?_eq_some_iff.1 hnb).1⟩, (Nat.le_of_ble_eq_true rfl)⟩, ⟨⟨hla, fun w1 w2 h1 hw => (hw 0 rfl).trans h1, fun g hg => by cases hg; exact (Array.getElem?_eq_some_iff.1 hla).1⟩, (Nat.le_of_ble_eq_true rfl)⟩, trivial⟩) (vsOk (by kernel_rfl)) ?_
  have hl0 := Reads.len r0
  have hl1 := Reads.len r1
  have hl2 := Reads.len r2
  have hl3 := Reads.len r3
  refine WP_seq (WP_region (WPO_all tt_ok (by kernel_rfl) ?_))
  refine WP_seq (WP_region (WPO_run tt_ok 2 (by kernel_rfl) ?_))
  refine CALL 30 [.g [.ref 0, .int .i64 own.rule, .int .i64 own.most], .s (.ref 1)] (.t [(true, [.int .i64 (listA own mine).1.lo, .int .i64 (listA own mine).1.hi]), (false, [.int .i64 (listA own mine).2])]) [] (by kernel_rfl) (goes_of (by kernel_rfl)) (by kernel_rfl) (by kernel_rfl) (fun hG nV w h => listA_calls (nV 0) (nV 1) own mine w (h.reads (id := 0) (kd := .ro) (e := 61) (by kernel_rfl)) (h.reads (id := 1) (kd := .ro) (e := 65) (by kernel_rfl)) (h.ents (4, .pf NobodyAt (· = 1)) (fnd_mem (by kernel_rfl))).1 (h.ents (5, .pf LanesAt (· = 0)) (fnd_mem (by kernel_rfl))).1 ) ?_
  refine WPO_all tt_ok (by kernel_rfl) ?_
  refine WP_seq (WP_region (WPO_run tt_ok 2 (by kernel_rfl) ?_))
  refine CALL 73 [.g [.ref 2, .int .i64 b.rule, .int .i64 b.most], .s (.ref 3)] (.t [(true, [.int .i64 (ListR b on).1.lo, .int .i64 (ListR b on).1.hi]), (false, [.int .i64 (ListR b on).2])]) [] (by kernel_rfl) (goes_of (by kernel_rfl)) (by kernel_rfl) (by kernel_rfl) (fun hG nV w h => ListR_calls (nV 2) (nV 3) b on w (h.reads (id := 2) (kd := .ro) (e := 61) (by kernel_rfl)) (h.reads (id := 3) (kd := .ro) (e := 65) (by kernel_rfl)) (by first | assumption | omega)) ?_
  refine WPO_all tt_ok (by kernel_rfl) ?_
  refine WP_seq (WP_seq (WP_draw (by kernel_rfl) (by kernel_rfl) ?_))
  refine WPQ_run tt_ok 2 (by kernel_rfl) ?_
  refine QBIN .neq 43 (.tmp 27) (.tmp 28) (.g [.int .i64 (listA own mine).1.lo, .int .i64 (listA own mine).1.hi]) (.g [.int .i64 (ListR b on).1.lo, .int .i64 (ListR b on).1.hi]) (.s (.bool (!((listA own mine).1.lo == (ListR b on).1.lo && (listA own mine).1.hi == (ListR b on).1.hi)))) [] (by kernel_rfl) (by kernel_rfl) (by kernel_rfl) (fun _ => BinOk_pairN (by kernel_rfl) _ _ _ _) ?_
  refine WPQ_run tt_ok 7 (by kernel_rfl) ?_
  refine QCALL 66 [.g [.ref 0, .int .i64 own.rule, .int .i64 own.most]] (.s (.int .i64 (checkD own))) [((!((listA own mine).1.lo == (ListR b on).1.lo && (listA own mine).1.hi == (ListR b on).1.hi)) || ((listA own mine).2 != (ListR b on).2), false)] (by kernel_rfl) (goes_of (by kernel_rfl)) (by kernel_rfl) (by kernel_rfl) (fun hG nV w h => checkD_calls (nV 0) own w (h.reads (id := 0) (kd := .ro) (e := 61) (by kernel_rfl)) ) ?_
  refine WPQ_run tt_ok 1 (by kernel_rfl) ?_
  refine QCALL 74 [.g [.ref 2, .int .i64 b.rule, .int .i64 b.most]] (.s (.int .i64 (checkR b))) [((!((listA own mine).1.lo == (ListR b on).1.lo && (listA own mine).1.hi == (ListR b on).1.hi)) || ((listA own mine).2 != (ListR b on).2), false)] (by kernel_rfl) (goes_of (by kernel_rfl)) (by kernel_rfl) (by kernel_rfl) (fun hG nV w h => checkR_calls (nV 2) b w (h.reads (id := 2) (kd := .ro) (e := 61) (by kernel_rfl)) ) ?_
  refine WPQ_all tt_ok (by kernel_rfl) ?_
  refine WP_cond (((!((listA own mine).1.lo == (ListR b on).1.lo && (listA own mine).1.hi == (ListR b on).1.hi)) || ((listA own mine).2 != (ListR b on).2)) || ((checkD own) != (checkR b))) (by kernel_rfl) (fun hc2 => ?_) (fun hc2 => ?_)
  · have hc2' := hc2; try simp only [Bool.and_eq_true, Bool.or_eq_true, Bool.and_eq_false_iff, Bool.or_eq_false_iff, Bool.not_eq_true', Bool.not_eq_false', decide_eq_true_eq, decide_eq_false_iff_not, beq_iff_eq, beq_eq_false_iff_ne, bne_iff_ne, bne_eq_false_iff_eq, ne_eq] at hc2'
    refine WP_seq (WP_region (WPO_all tt_ok (by kernel_rfl) ?_))
    refine WP_ret ?_
    exact ⟨.s (.bool false), by kernel_rfl, fun nV w' h => ⟨by rw [show deckListsL own mine b on = false from by unfold deckListsL; simp only [hc2, cond_true, cond_false]]; rfl, h.bel⟩⟩
  have hc2' := hc2; try simp only [Bool.and_eq_true, Bool.or_eq_true, Bool.and_eq_false_iff, Bool.or_eq_false_iff, Bool.not_eq_true', Bool.not_eq_false', decide_eq_true_eq, decide_eq_false_iff_not, beq_iff_eq, beq_eq_false_iff_ne, bne_iff_ne, bne_eq_false_iff_eq, ne_eq] at hc2'
  refine WP_skip ?_
  refine WP_seq (WP_region (WPO_run tt_ok 2 (by kernel_rfl) ?_))
  refine CALL 31 [.g [.ref 0, .int .i64 own.rule, .int .i64 own.most], .s (.ref 1)] (.t [(false, [.int .i64 (levelA own mine).1]), (false, [.int .i64 (levelA own mine).2])]) [] (by kernel_rfl) (goes_of (by kernel_rfl)) (by kernel_rfl) (by kernel_rfl) (fun hG nV w h => levelA_calls (nV 0) (nV 1) own mine w (h.reads (id := 0) (kd := .ro) (e := 61) (by kernel_rfl)) (h.reads (id := 1) (kd := .ro) (e := 65) (by kernel_rfl)) (h.ents (4, .pf NobodyAt (· = 1)) (fnd_mem (by kernel_rfl))).1 (h.ents (5, .pf LanesAt (· = 0)) (fnd_mem (by kernel_rfl))).1 ) ?_
  refine WPO_all tt_ok (by kernel_rfl) ?_
  refine WP_seq (WP_region (WPO_run tt_ok 2 (by kernel_rfl) ?_))
  refine CALL 75 [.g [.ref 2, .int .i64 b.rule, .int .i64 b.most], .s (.ref 3)] (.t [(false, [.int .i64 (LevelR b on).1]), (false, [.int .i64 (LevelR b on).2])]) [] (by kernel_rfl) (goes_of (by kernel_rfl)) (by kernel_rfl) (by kernel_rfl) (fun hG nV w h => LevelR_calls (nV 2) (nV 3) b on w (h.reads (id := 2) (kd := .ro) (e := 61) (by kernel_rfl)) (h.reads (id := 3) (kd := .ro) (e := 65) (by kernel_rfl)) (by first | assumption | omega)) ?_
  refine WPO_all tt_ok (by kernel_rfl) ?_
  refine WP_seq (WP_seq (WP_region (WPO_all tt_ok (by kernel_rfl) ?_)))
  refine WP_cond (((levelA own mine).1 != (LevelR b on).1) || ((levelA own mine).2 != (LevelR b on).2)) (by kernel_rfl) (fun hc4 => ?_) (fun hc4 => ?_)
  · have hc4' := hc4; try simp only [Bool.and_eq_true, Bool.or_eq_true, Bool.and_eq_false_iff, Bool.or_eq_false_iff, Bool.not_eq_true', Bool.not_eq_false', decide_eq_true_eq, decide_eq_false_iff_not, beq_iff_eq, beq_eq_false_iff_ne, bne_iff_ne, bne_eq_false_iff_eq, ne_eq] at hc4'
    refine WP_seq (WP_region (WPO_all tt_ok (by kernel_rfl) ?_))
    refine WP_ret ?_
    exact ⟨.s (.bool false), by kernel_rfl, fun nV w' h => ⟨by rw [show deckListsL own mine b on = false from by unfold deckListsL; simp only [hc2, hc4, cond_true, cond_false]]; rfl, h.bel⟩⟩
  have hc4' := hc4; try simp only [Bool.and_eq_true, Bool.or_eq_true, Bool.and_eq_false_iff, Bool.or_eq_false_iff, Bool.not_eq_true', Bool.not_eq_false', decide_eq_true_eq, decide_eq_false_iff_not, beq_iff_eq, beq_eq_false_iff_ne, bne_iff_ne, bne_eq_false_iff_eq, ne_eq] at hc4'
  refine WP_skip ?_
  refine WP_seq (WP_region (WPO_run tt_ok 2 (by kernel_rfl) ?_))
  refine CALL 32 [.g [.ref 0, .int .i64 own.rule, .int .i64 own.most], .s (.ref 1)] (.t [(false, [.int .i64 (tiltsA own mine).1]), (false, [.int .i64 (tiltsA own mine).2])]) [] (by kernel_rfl) (goes_of (by kernel_rfl)) (by kernel_rfl) (by kernel_rfl) (fun hG nV w h => tiltsA_calls (nV 0) (nV 1) own mine w (h.reads (id := 0) (kd := .ro) (e := 61) (by kernel_rfl)) (h.reads (id := 1) (kd := .ro) (e := 65) (by kernel_rfl)) (h.ents (4, .pf NobodyAt (· = 1)) (fnd_mem (by kernel_rfl))).1 (h.ents (5, .pf LanesAt (· = 0)) (fnd_mem (by kernel_rfl))).1 ) ?_
  refine WPO_all tt_ok (by kernel_rfl) ?_
  refine WP_seq (WP_region (WPO_run tt_ok 2 (by kernel_rfl) ?_))
  refine CALL 76 [.g [.ref 2, .int .i64 b.rule, .int .i64 b.most], .s (.ref 3)] (.t [(false, [.int .i64 (TiltsR b on).1]), (false, [.int .i64 (TiltsR b on).2])]) [] (by kernel_rfl) (goes_of (by kernel_rfl)) (by kernel_rfl) (by kernel_rfl) (fun hG nV w h => TiltsR_calls (nV 2) (nV 3) b on w (h.reads (id := 2) (kd := .ro) (e := 61) (by kernel_rfl)) (h.reads (id := 3) (kd := .ro) (e := 65) (by kernel_rfl)) (by first | assumption | omega)) ?_
  refine WPO_all tt_ok (by kernel_rfl) ?_
  refine WP_seq (WP_region (WPO_all tt_ok (by kernel_rfl) ?_))
  refine WP_ret ?_
  exact ⟨.s (.bool (((tiltsA own mine).1 == (TiltsR b on).1) && ((tiltsA own mine).2 == (TiltsR b on).2))), by kernel_rfl, fun nV w' h => ⟨by rw [show deckListsL own mine b on = (((tiltsA own mine).1 == (TiltsR b on).1) && ((tiltsA own mine).2 == (TiltsR b on).2)) from by unfold deckListsL; simp only [hc2, hc4, cond_true, cond_false]]; rfl, h.bel⟩⟩
def DeckListsL (b : DBook) (on : List Place) : Bool :=
  (((deckListsL (ownDeckF b) on b on) && (keptDeckF (ownDeckF b) b)) && (keptPlacesF on on)) && stowedL
theorem DeckListsL_calls (g0 g1 : Value) (b : DBook) (on : List Place) (w : World) (r0 : Reads w g0 3 b.loads encLoad zLoad) (r1 : Reads w g1 2 on encPlace zPlace) (hnb : NobodyAt w) (hla : LanesAt w) (hL0 : b.loads.length * 24 ≤ 140737488355328) (hL1 : on.length * 16 ≤ 140737488355328) : Calls Tryd.prog 3 #[.agg #[g0, iv b.rule, iv b.most], g1] w fun e w' => e = .returned (.bool (DeckListsL b on)) ∧ Below w.heap.size w w' := by
  refine calls_of_WP (cx := cx0 w (vn [g0, g1]) 2) (n := vn [g0, g1]) (vs := [.g [.ref 0, .int .i64 b.rule, .int .i64 b.most], .s (.ref 1)]) (hp := [(0, .sl .ro 61 3 b.loads encLoad zLoad), (1, .sl .ro 65 2 on encPlace zPlace), (2, .pf NobodyAt (· = 1)), (3, .pf LanesAt (· = 0))]) (nx := 4) tt_ok Tryd.func3 rfl rfl rfl (by kernel_rfl) (HSat_args (vn_one (by simp [r0.one, r1.one])) (by decide) ⟨⟨⟨fun _ => rfl, by decide, r0⟩, (Nat.le_of_ble_eq_true rfl)⟩, ⟨⟨fun _ => rfl, by decide, r1⟩, (Nat.le_of_ble_eq_true rfl)⟩, ⟨⟨hnb, fun w1 w2 h1 hw => (hw 1 rfl).trans h1, fun g hg => by cases hg; exact (Array.getElem?_eq_some_iff.1 hnb).1⟩, (Nat.le_of_ble_eq_true rfl)⟩, ⟨⟨hla, fun w1 w2 h1 hw => (hw 0 rfl).trans h1, fun g hg => by cases hg; exact (Array.getElem?_eq_some_iff.1 hla).1⟩, (Nat.le_of_ble_eq_true rfl)⟩, trivial⟩) (vsOk (by kernel_rfl)) ?_
  have hl0 := Reads.len r0
  have hl1 := Reads.len r1
  refine WP_seq (WP_region (WPO_all tt_ok (by kernel_rfl) ?_))
  refine WP_seq (WP_region (WPO_run tt_ok 1 (by kernel_rfl) ?_))
  refine CALLRS 16 [.g [.ref 0, .int .i64 b.rule, .int .i64 b.most]] (.g [.ref 5, .int .i64 (ownDeckF b).rule, .int .i64 (ownDeckF b).most]) [⟨61, 3, _, (ownDeckF b).loads, encLoad, zLoad⟩] 5 (by kernel_rfl) (by kernel_rfl) (goes_of (by kernel_rfl)) (by kernel_rfl) (by kernel_rfl) ⟨⟨(Nat.le_of_ble_eq_true rfl), fun _ => rfl⟩, trivial⟩ (fun nV w h => (ownDeckF_calls (nV 0) b w (h.reads (id := 0) (kd := .ro) (e := 61) (by kernel_rfl)) (by first | assumption | omega)).mono fun e w' ⟨v0, h1, h2, h3, _⟩ => ⟨[v0], h1, h2, h3⟩) ?_
  refine WPO_run tt_ok 1 (by kernel_rfl) ?_
  refine CALLRS 17 [.s (.ref 1)] (.s (.ref 6)) [⟨65, 2, _, on, encPlace, zPlace⟩] 6 (by kernel_rfl) (by kernel_rfl) (goes_of (by kernel_rfl)) (by kernel_rfl) (by kernel_rfl) ⟨⟨(Nat.le_of_ble_eq_true rfl), fun _ => rfl⟩, trivial⟩ (fun nV w h => (ownPlaces_calls (nV 1) on w (h.reads (id := 1) (kd := .ro) (e := 65) (by kernel_rfl)) (by assumption)).mono fun e w' ⟨v0, h1, h2, h3, _⟩ => ⟨[v0], h1, h2, h3⟩) ?_
  refine WPO_all tt_ok (by kernel_rfl) ?_
  refine WP_seq (WP_region (WPO_run tt_ok 4 (by kernel_rfl) ?_))
  refine CALL 18 [.g [.ref 5, .int .i64 (ownDeckF b).rule, .int .i64 (ownDeckF b).most], .s (.ref 6), .g [.ref 0, .int .i64 b.rule, .int .i64 b.most], .s (.ref 1)] (.s (.bool (deckListsL (ownDeckF b) on b on))) [] (by kernel_rfl) (goes_of (by kernel_rfl)) (by kernel_rfl) (by kernel_rfl) (fun hG nV w h => deckListsL_calls (nV 5) (nV 6) (nV 0) (nV 1) (ownDeckF b) on b on w (h.reads (id := 5) (kd := .ro) (e := 61) (by kernel_rfl)) (h.reads (id := 6) (kd := .ro) (e := 65) (by kernel_rfl)) (h.reads (id := 0) (kd := .ro) (e := 61) (by kernel_rfl)) (h.reads (id := 1) (kd := .ro) (e := 65) (by kernel_rfl)) (h.ents (2, .pf NobodyAt (· = 1)) (fnd_mem (by kernel_rfl))).1 (h.ents (3, .pf LanesAt (· = 0)) (fnd_mem (by kernel_rfl))).1 (by first | assumption | omega)) ?_
  refine WPO_run tt_ok 3 (by kernel_rfl) ?_
  refine CALL 19 [.g [.ref 5, .int .i64 (ownDeckF b).rule, .int .i64 (ownDeckF b).most], .g [.ref 0, .int .i64 b.rule, .int .i64 b.most]] (.s (.bool (keptDeckF (ownDeckF b) b))) [((deckListsL (ownDeckF b) on b on), true)] (by kernel_rfl) (goes_of (by kernel_rfl)) (by kernel_rfl) (by kernel_rfl) (fun hG nV w h => keptDeckF_calls (nV 5) (nV 0) (ownDeckF b) b w (h.reads (id := 5) (kd := .ro) (e := 61) (by kernel_rfl)) (h.reads (id := 0) (kd := .ro) (e := 61) (by kernel_rfl)) ) ?_
  refine WPO_run tt_ok 4 (by kernel_rfl) ?_
  refine CALL 20 [.s (.ref 6), .s (.ref 1)] (.s (.bool (keptPlacesF on on))) [((deckListsL (ownDeckF b) on b on) && (keptDeckF (ownDeckF b) b), true)] (by kernel_rfl) (goes_of (by kernel_rfl)) (by kernel_rfl) (by kernel_rfl) (fun hG nV w h => keptPlacesF_calls (nV 6) (nV 1) on on w (h.reads (id := 6) (kd := .ro) (e := 65) (by kernel_rfl)) (h.reads (id := 1) (kd := .ro) (e := 65) (by kernel_rfl)) ) ?_
  refine WPO_run tt_ok 2 (by kernel_rfl) ?_
  refine CALL 21 [] (.s (.bool stowedL)) [(((deckListsL (ownDeckF b) on b on) && (keptDeckF (ownDeckF b) b)) && (keptPlacesF on on), true)] (by kernel_rfl) (goes_of (by kernel_rfl)) (by kernel_rfl) (by kernel_rfl) (fun hG nV w h => stowedL_calls   w (h.ents (2, .pf NobodyAt (· = 1)) (fnd_mem (by kernel_rfl))).1 (h.ents (3, .pf LanesAt (· = 0)) (fnd_mem (by kernel_rfl))).1 ) ?_
  refine WPO_all tt_ok (by kernel_rfl) ?_
  refine WP_ret ?_
  exact ⟨.s (.bool ((((deckListsL (ownDeckF b) on b on) && (keptDeckF (ownDeckF b) b)) && (keptPlacesF on on)) && stowedL)), by kernel_rfl, fun nV w' h => ⟨by rw [show DeckListsL b on = ((((deckListsL (ownDeckF b) on b on) && (keptDeckF (ownDeckF b) b)) && (keptPlacesF on on)) && stowedL) from rfl]; rfl, h.bel⟩⟩
end Go.Proofs.YthfnedbpmdkdjaaDoor.D
namespace Go.Proofs.YthfnedbpmdkdjaaDoor.D
open Go Go.RowKit Go.Proofs.YthfnedbpmdkdjaaDoor.Eng Go.Proofs.YthfnedbpmdkdjaaDoor.Cm
set_option linter.unusedVariables false
theorem DeckLists_true (b : DBook) (on : List Place) (h : on.length * 16 ≤ 140737488355328) : DeckListsL b on = true := by
  have hl : on.length ≤ 9223372036854775806 := by omega
  unfold DeckListsL deckListsL
  rw [stowedL_true, keptPlaces_self]
  simp only [ownDeckF]
  rw [keptDeck_self, list_same b hl, level_same b hl, tilts_same b hl, check_same b]
  simp
end Go.Proofs.YthfnedbpmdkdjaaDoor.D
namespace Go.Proofs.YthfnedbpmdkdjaaDoor.D
open Go Go.ChangeShapes Go.WideShapes Go.RowKit Go.Proofs.YthfnedbpmdkdjaaDoor.Eng Go.Proofs.YthfnedbpmdkdjaaDoor.Cm
set_option linter.unusedVariables false
set_option linter.unusedSimpArgs false
set_option maxRecDepth 100000
namespace DeckLists
theorem door_met_deckLists (os : Os) (args : Array Value) : laidMetH Tryd.prog Rows.deckListsRow.laid ((World.doorLaid Tryd.prog 30 os).forCall (fun _ _ => 0) ⟨#[], args, []⟩).memory :=
  laidMetH_of_parts3 (fuel := 8) (laidMet_of_run' 8 (by kernel_rfl) (by kernel_rfl)) (by kernel_rfl) (by kernel_rfl)
theorem contract (H : Type) (enc : TypeId × Value → H) (W : World) (base : Nat) (args : Array Value) (ds gs : List (DataW H)) (before : List MemPlace)
    (hval : ∀ (j : Nat) t v, Tryd.f3.params[j]? = some t → args[j]? = some v → Value.okWide Tryd.prog W .any base t v)
    (hW : DataW.Whole enc Tryd.prog Tryd.f3.params.toList Rows.deckListsSpec.vars false W args.toList ds gs before)
    (hsz0 : (DataW.weightsEach Tryd.prog (Tryd.f3.params.toList ++ []) (ds ++ gs)).all (fun x => decide (x ≤ reachBytes)) = true) (hL : laidMetH Tryd.prog Rows.deckListsRow.laid W) (hS : W.ShapedOpen Tryd.prog) :
    Calls Tryd.prog 3 args W fun e W' => ∃ v, e = .returned v ∧ Rows.deckListsSpec.post enc Tryd.prog Tryd.f3 false true false false W args v W' := by
  have hW' := hW
  obtain ⟨p, q, hA0, hV, rfl, hfz, hnd⟩ := hW
  have hA : DataW.TrodAll enc Tryd.prog W 0 (fun _ => true) true Tryd.f3.params.toList args.toList ds p := hA0
  rw [Tryd.params3] at hA hval hsz0
  clear hA0
  obtain ⟨v0, vs0, d0, ds0, p0, q0, hargs, rfl, rfl, h0, r0⟩ := trodAll_cons hA
  obtain ⟨v1, vs1, d1, ds1, p1, q1, rfl, rfl, rfl, h1, r1⟩ := trodAll_cons r0
  obtain ⟨rfl, rfl, rfl⟩ := trodAll_nil r1
  obtain rfl : args = #[v0, v1] := by apply Array.ext'; rw [hargs]
  obtain ⟨rfl, rfl⟩ := trodVars_none hV
  have hsz : (DataW.weightsEach Tryd.prog [24, 25] [d0, d1]).all (fun x => decide (x ≤ reachBytes)) = true := by simpa using hsz0
  have hb0 : Wb Tryd.prog 24 d0 := Bd_each hsz (j := 0) rfl rfl
  obtain ⟨c0, rfl, ⟨g0_0, x0, y0, q0_0, q0_1, q0_2, _⟩⟩ := arg_agg Tryd.underlying24 (hval 0 24 v0 rfl rfl) h0 hb0 opn24
  rw [agg_of y0] at *
  have hb1 : Wb Tryd.prog 25 d1 := Bd_each hsz (j := 1) rfl rfl
  obtain ⟨x1, q1_0⟩ := arg_slice (φ := fun v => ∃ b : List Place, (Reads W v 2 b encPlace zPlace ∧ (∀ a ∈ b, i64B a.load ∧ i64B a.lane) ∧ b.length * 16 ≤ reachBytes)) Tryd.underlying25 (hval 1 25 v1 rfl rfl) h1 hb1 (opn25.mono fun cs ⟨g, b, h1, h2, _⟩ => ⟨g, h1, b, h2⟩)
  have ha := deck_of hS hL
  have hc := DeckListsL_calls g0_0 v1 x0 x1 W q0_0.1 q1_0.1 ha.1 ha.2 (Nat.le_trans q0_0.2.2 (by decide)) (Nat.le_trans q1_0.2.2 (by decide))
  refine hc.mono fun e W' ⟨he, hb⟩ => ?_
  refine ⟨.bool true, he.trans (by rw [DeckLists_true x0 x1 (Nat.le_trans q1_0.2.2 (by decide))]), law_post laidOut (fun u hu => ?_) hW' rfl (by kernel_rfl) Tryd.underlying4 rfl rfl rfl hb⟩
  have hall : ([24, 25] : List TypeId).all (fun u => Tryd.prog.readableRec u && decide (u < Tryd.prog.types.size)) = true := by kernel_rfl
  have hu' : u ∈ ([24, 25] : List TypeId) := hu
  have := List.all_eq_true.1 hall u hu'
  simp only [Bool.and_eq_true, decide_eq_true_eq] at this
  exact this
theorem reads (os : Os) {H : Type} (enc : TypeId × Value → H) : ∃ places, DataW.whole enc Tryd.prog ((World.doorLaid Tryd.prog 30 os).forCall (fun _ _ => 0) ⟨#[], #[.agg #[.slice none 0 0, .int .i64 0, .int .i64 0], .slice none 0 0], []⟩).memory Tryd.f3.params.toList Rows.deckListsSpec.vars false (#[.agg #[.slice none 0 0, .int .i64 0, .int .i64 0], .slice none 0 0] : Array Value).toList 8 = some ([.agg [.nil, .lit (.int .i64 0), .lit (.int .i64 0)], .nil], [], places) :=
  ⟨[], by kernel_rfl⟩
set_option maxRecDepth 100000 in
theorem lifted (os : Os) (started : os.Started) (H : Type) (enc : TypeId × Value → H) (F : Stop.Interp) :
    ReturnsInHanded {} Tryd.checked os 3 .any ((OpenSpec.ofChange Rows.deckListsSpec).preRow enc Tryd.prog Tryd.f3 Rows.deckListsRow.domain false Rows.deckListsRow.laid) (((OpenSpec.ofChange Rows.deckListsSpec).at F).post enc Tryd.prog Tryd.f3 false true false false) := by
  obtain ⟨places, hx⟩ := reads os enc
  refine returnsInHanded_of_row (C := Tryd.checked) (s := OpenSpec.ofChange Rows.deckListsSpec) own started (by kernel_rfl) Tryd.func3
    (witness_row_atRef (enc := enc) (C := Tryd.checked) false (World.doorLaid Tryd.prog 30 os) #[.agg #[.slice none 0 0, .int .i64 0, .int .i64 0], .slice none 0 0] rfl (by kernel_rfl) (by kernel_rfl) (by kernel_rfl)
      (OpenSpec.preRow_of_cond 8 hx (by kernel_rfl) (fun k hk => by cases hk) (by kernel_rfl) (door_met_deckLists os _))) ?_
  intro W base args ds gs before hval hW _ hcond hsz hL hS _
  exact contract H enc W base args ds gs before hval hW hsz hL hS
theorem said : Rows.DeckListsSaid :=
  OpenClaim.holds_of_cond 3 Tryd.f3 rfl rfl rfl rfl rfl rfl rfl ⟨rfl, rfl, rfl, rfl, rfl⟩ rfl rfl rfl rfl rfl (by kernel_rfl) Tryd.func3 (by kernel_rfl)
    (of_decide_eq_true (by kernel_rfl)) (by unfold Func.isWrapper; first | (rw [if_pos (by decide +kernel)]; kernel_rfl) | (rw [if_neg (by decide +kernel)]; exact ⟨rfl, rfl⟩))
    (fun os started H enc _ F => by rw [OpenClaim.pre_eq_preRow]; exact lifted os started H enc F)
theorem plain (f : FuncId) (fn : Func) (hf : Tryd.pinned.checked.prog.funcNamed "prow/prowlaw03.DeckLists" = some f) (hfn : Tryd.pinned.checked.prog.funcs[f]? = some fn) :
    false = Tryd.pinned.checked.prog.looks [] ∧ ∀ (j : Nat) t, fn.params[j]? = some t → Tryd.pinned.checked.prog.wantsStandIn t = false := by
  obtain rfl : f = 3 := Option.some.inj ((show Tryd.prog.funcNamed "prow/prowlaw03.DeckLists" = some 3 by kernel_rfl).symm.trans hf) |>.symm
  obtain rfl : fn = Tryd.f3 := (Option.some.inj (Tryd.func3.symm.trans hfn)).symm
  refine ⟨by kernel_rfl, fun j t ht => ?_⟩
  rw [Tryd.params3] at ht
  have hm : t ∈ ([24, 25] : List TypeId) := by simpa using Array.mem_of_getElem? ht
  have hall : (([24, 25] : List TypeId).all fun u => !Tryd.prog.wantsStandIn u) = true := by kernel_rfl
  exact (show Tryd.prog.wantsStandIn t = false by simpa using List.all_eq_true.1 hall t hm)
theorem card : Rows.DeckListsCardSaid :=
  Claim7.holds_tied_plain_at .later [] _ _ _ _ said (fun _ h => by cases h) (by kernel_rfl) (fun _ h => by cases h) deckLists_row_tie rfl ⟨rfl, rfl⟩ (by kernel_rfl) rfl plain (by kernel_rfl)
end DeckLists
end Go.Proofs.YthfnedbpmdkdjaaDoor.D
theorem Go.Proofs.YthfnedbpmdkdjaaDoor.deckLists_holds : Go.Proofs.YthfnedbpmdkdjaaDoor.Rows.DeckListsCardSaid := Go.Proofs.YthfnedbpmdkdjaaDoor.D.DeckLists.card
