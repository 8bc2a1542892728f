/-
  DeckSides: for every book, whatever numbers choose, the law returns true, and leaves all as it was. Conditions: none but the row's own.
-/
import Derived.Test.YthfnedbpmdkdjaaDoorDeckSidesA3
import Derived.ArgAppend
import Derived.Below
import Derived.Carry
import Derived.ChangeKeysEq
import Derived.ControlIn
import Derived.Deep.DeepHandedRow
import Derived.Deep.DeepWitnessRowRef
import Derived.Deep.Draws
import Derived.Deep.Quiet
import Derived.Deep.Slices
import Derived.KernelRfl
import Derived.LaidMore
import Derived.Laws.AppendOwn
import Derived.Laws.Cells
import Derived.Laws.CopyRow
import Derived.Laws.IdiomRangeMap
import Derived.Laws.OwnMore
import Derived.Laws.Rows
import Derived.MapKept
import Derived.Maps.AppendAt
import Derived.OpenShut
import Derived.OrdersHeld
import Derived.OrdersIn
import Derived.ProofKit
import Derived.RangeFuncLeaves
import Derived.RangeFuncNested
import Derived.RangeFuncOwn
import Derived.SevenTiedAt
import Derived.SizedLaws
import Derived.Stop.Joined
import Derived.Test.YthfnedbpmdkdjaaDoorCards
import Derived.Test.YthfnedbpmdkdjaaDoorProg
import Derived.Test.YthfnedbpmdkdjaaDoorRows
import Derived.Test.YthfnedbpmdkdjaaDoorTie
import Derived.WalkKit
import Derived.WideKeyRuns
namespace Go.Proofs.YthfnedbpmdkdjaaDoor.D
open Go Go.RowKit Go.Proofs.YthfnedbpmdkdjaaDoor.Eng Go.Proofs.YthfnedbpmdkdjaaDoor.Cm
set_option linter.unusedVariables false
set_option linter.unusedSimpArgs false
set_option linter.unusedSectionVars false
def DeckSidesL_c1 (b : DBook) (bits : List Int) (n : Int) (k1 : Nat) : (List Load) → Bool := fun v1_1 => decide ((k1 : Int) < (b.loads.length : Int))
def DeckSidesL_b1 (b : DBook) (bits : List Int) (n : Int) (k1 : Nat) : (List Load) → Bd (List Load) Bool := fun v1_1 => .go (v1_1 ++ ([(loadL (b.loads.getD k1 zLoad).w (flippedL (b.loads.getD k1 zLoad).lanes))]))
def DeckSidesL_c2 (b : DBook) (bits : List Int) (n : Int) (u1_0 : List Load) (k2 : Nat) : (List Place) → Bool := fun v2_1 => decide ((k2 : Int) < ((drawnL b (chosenL b n) bits).length : Int))
def DeckSidesL_b2 (b : DBook) (bits : List Int) (n : Int) (u1_0 : List Load) (k2 : Nat) : (List Place) → Bd (List Place) Bool := fun v2_1 => .go (v2_1 ++ ([(placeL ((drawnL b (chosenL b n) bits).getD k2 zPlace).load (IntKind.i64.wrap (2 - ((drawnL b (chosenL b n) bits).getD k2 zPlace).lane)))]))
def DeckSidesL (b : DBook) (bits : List Int) (n : Int) : Bool :=
  (bif !(soundL b) then stowedL else (match loopR (DeckSidesL_c1 b bits n) (DeckSidesL_b1 b bits n) b.loads.length 0 ([]) with | .brk u1_0 => (match loopR (DeckSidesL_c2 b bits n u1_0) (DeckSidesL_b2 b bits n u1_0) (drawnL b (chosenL b n) bits).length 0 ([]) with | .brk u2_0 => (bif ((((((listA b (drawnL b (chosenL b n) bits)).2 != 0) || ((listA (⟨u1_0, b.rule, b.most⟩ : DBook) u2_0).2 != 0)) || ((levelA b (drawnL b (chosenL b n) bits)).2 != 0)) || ((levelA (⟨u1_0, b.rule, b.most⟩ : DBook) u2_0).2 != 0)) || (!((listA (⟨u1_0, b.rule, b.most⟩ : DBook) u2_0).1.lo == (rangeF (IntKind.i64.wrap (0 - (listA b (drawnL b (chosenL b n) bits)).1.hi)) (IntKind.i64.wrap (0 - (listA b (drawnL b (chosenL b n) bits)).1.lo))).lo && (listA (⟨u1_0, b.rule, b.most⟩ : DBook) u2_0).1.hi == (rangeF (IntKind.i64.wrap (0 - (listA b (drawnL b (chosenL b n) bits)).1.hi)) (IntKind.i64.wrap (0 - (listA b (drawnL b (chosenL b n) bits)).1.lo))).hi))) || ((levelA b (drawnL b (chosenL b n) bits)).1 != (levelA (⟨u1_0, b.rule, b.most⟩ : DBook) u2_0).1) then false else (bif ((((tiltsA b (drawnL b (chosenL b n) bits)).1 != (tiltsA (⟨u1_0, b.rule, b.most⟩ : DBook) u2_0).1) || ((tiltsA b (drawnL b (chosenL b n) bits)).2 != (tiltsA (⟨u1_0, b.rule, b.most⟩ : DBook) u2_0).2)) || (!(alikeF (mostA b).1 (mostA (⟨u1_0, b.rule, b.most⟩ : DBook)).1))) || ((mostA b).2 != (mostA (⟨u1_0, b.rule, b.most⟩ : DBook)).2) then false else (((((((fewestA b).2 == (fewestA (⟨u1_0, b.rule, b.most⟩ : DBook)).2) && (alikeF (fewestA b).1 (fewestA (⟨u1_0, b.rule, b.most⟩ : DBook)).1)) && ((neverA b).2 == (neverA (⟨u1_0, b.rule, b.most⟩ : DBook)).2)) && (alikeF (neverA b).1 (neverA (⟨u1_0, b.rule, b.most⟩ : DBook)).1)) && ((weighA b).2 == (weighA (⟨u1_0, b.rule, b.most⟩ : DBook)).2)) && ((weighA b).1 == (weighA (⟨u1_0, b.rule, b.most⟩ : DBook)).1)) && stowedL)) | .ret r => r) | .ret r => r))
theorem DeckSidesL_calls (g0 g1 : Value) (b : DBook) (bits : List Int) (n : Int) (w : World) (r0 : Reads w g0 3 b.loads encLoad zLoad) (r1 : Reads w g1 1 bits encI 0) (hnb : NobodyAt w) (hla : LanesAt w) : Calls Tryd.prog 8 #[.agg #[g0, iv b.rule, iv b.most], g1, iv n] w fun e w' => e = .returned (.bool (DeckSidesL b bits n)) ∧ Below w.heap.size w w' := by
  refine calls_of_WP (cx := cx0 w (vn [g0, g1]) 2) (n := vn [g0, g1]) (vs := [.g [.ref 0, .int .i64 b.rule, .int .i64 b.most], .s (.ref 1), .s (.int .i64 n)]) (hp := [(0, .sl .ro 61 3 b.loads encLoad zLoad), (1, .sl .ro 3 1 bits encI 0), (2, .pf NobodyAt (· = 1)), (3, .pf LanesAt (· = 0))]) (nx := 4) tt_ok Tryd.func8 rfl rfl rfl (by kernel_rfl) (HSat_args (vn_one (by simp [r0.one, r1.one])) (by decide) ⟨⟨⟨fun _ => rfl, by decide, r0⟩, (Nat.le_of_ble_eq_true rfl)⟩, ⟨⟨fun _ => rfl, by decide, r1⟩, (Nat.le_of_ble_eq_true rfl)⟩, ⟨⟨hnb, fun w1 w2 h1 hw => (hw 1 rfl).trans h1, fun g hg => by cases hg; exact (Array.getElem?_eq_some_iff.1 hnb).1⟩, (Nat.le_of_ble_eq_true rfl)⟩, ⟨⟨hla, fun w1 w2 h1 hw => (hw 0 rfl).trans h1, fun g hg => by cases hg; exact (Array.getElem?_eq_some_iff.1 hla).1⟩, (Nat.le_of_ble_eq_true rfl)⟩, trivial⟩) (vsOk (by kernel_rfl)) ?_
  have hl0 := Reads.len r0
  have hl1 := Reads.len r1
  refine WP_seq (WP_region (WPO_all tt_ok (by kernel_rfl) ?_))
  refine WP_seq (WP_seq (WP_region (WPO_run tt_ok 1 (by kernel_rfl) ?_)))
  refine CALL 26 [.g [.ref 0, .int .i64 b.rule, .int .i64 b.most]] (.s (.bool (soundL b))) [] (by kernel_rfl) (goes_of (by kernel_rfl)) (by kernel_rfl) (by kernel_rfl) (fun hG nV w h => soundL_calls (nV 0) b w (h.reads (id := 0) (kd := .ro) (e := 61) (by kernel_rfl)) ) ?_
  refine WPO_all tt_ok (by kernel_rfl) ?_
  refine WP_cond (!(soundL b)) (by kernel_rfl) (fun hc2 => ?_) (fun hc2 => ?_)
  · have hc2' := hc2; try simp only [Bool.and_eq_true, Bool.or_eq_true, Bool.and_eq_false_iff, Bool.or_eq_false_iff, Bool.not_eq_true', Bool.not_eq_false', decide_eq_true_eq, decide_eq_false_iff_not, beq_iff_eq, beq_eq_false_iff_ne, bne_iff_ne, bne_eq_false_iff_eq, ne_eq] at hc2'
    refine WP_seq (WP_region (CALL 21 [] (.s (.bool stowedL)) [] (by kernel_rfl) (goes_of (by kernel_rfl)) (by kernel_rfl) (by kernel_rfl) (fun hG nV w h => stowedL_calls   w (h.ents (2, .pf NobodyAt (· = 1)) (fnd_mem (by kernel_rfl))).1 (h.ents (3, .pf LanesAt (· = 0)) (fnd_mem (by kernel_rfl))).1 ) ?_))
    refine WPO_all tt_ok (by kernel_rfl) ?_
    refine WP_ret ?_
    exact ⟨.s (.bool stowedL), by kernel_rfl, fun nV w' h => ⟨by rw [show DeckSidesL b bits n = stowedL from by unfold DeckSidesL; simp only [hc2, cond_true, cond_false]]; rfl, h.bel⟩⟩
  have hc2' := hc2; try simp only [Bool.and_eq_true, Bool.or_eq_true, Bool.and_eq_false_iff, Bool.or_eq_false_iff, Bool.not_eq_true', Bool.not_eq_false', decide_eq_true_eq, decide_eq_false_iff_not, beq_iff_eq, beq_eq_false_iff_ne, bne_iff_ne, bne_eq_false_iff_eq, ne_eq] at hc2'
  refine WP_skip ?_
  have hv : ValidD b := sound_valid (by assumption)
  have hb5 := hv.n.2
  have hn1 := hv.n.1
  have hcm : ∀ x ∈ chosenL b n, 0 ≤ x ∧ x < b.loads.length := fun x hx => chosen_mem hx
  have hcp : ∀ x ∈ chosenL b n, 0 ≤ x := fun x hx => (hcm x hx).1
  have hcl5 : (chosenL b n).length ≤ 5 := Nat.le_trans (chosen_len b n) hb5
  have hdl : (drawnL b (chosenL b n) bits).length ≤ 5 := by rw [drawn_len hcl5]; exact hcl5
  have hdm := drawn_mem (bits := bits) hcl5 hcm
  have htl := truly_len b bits
  have hdw : ∀ x ∈ drawnL b (chosenL b n) bits, 0 ≤ x.load ∧ x.load < ((trulyL b bits).length : Int) := fun x hx => by rw [htl]; exact hdm x hx
  have hcw : ∀ x ∈ chosenL b n, 0 ≤ x ∧ x < ((trulyL b bits).length : Int) := fun x hx => by rw [htl]; exact hcm x hx
  refine WP_seq (WP_region (WPO_all tt_ok (by kernel_rfl) ?_))
  refine WP_seq (WP_region (WPO_all tt_ok (by kernel_rfl) ?_))
  refine WP_seq (WP_seq (WP_region (WPO_all tt_ok (by kernel_rfl) ?_)))
  refine WP_loopA (ρ := Bool) (DeckSidesL_c1 b bits n) (DeckSidesL_b1 b bits n) b.loads.length ([]) (fun k : Nat => (k : Int)) (fun (ci : Int) (zz : (List Load)) => ⟨241, [(8, [], .s (.int .i64 ci)), (7, [], .s (.p 5 0)), (3, [], .s (.p 4 0)), (1, [], .s (.ref 1)), (2, [], .s (.int .i64 n))], [(6, .sl .own 61 3 zz encLoad zLoad), (5, .box 24 [.ref 6, .int .i64 b.rule, .int .i64 b.most]), (4, .box 24 [.ref 0, .int .i64 b.rule, .int .i64 b.most]), (0, .sl .ro 61 3 b.loads encLoad zLoad), (1, .sl .ro 3 1 bits encI 0), (2, .pf NobodyAt (· = 1)), (3, .pf LanesAt (· = 0))], 7, []⟩) (fun zz : (List Load) => ⟨241, [(7, [], .s (.p 5 0)), (3, [], .s (.p 4 0)), (1, [], .s (.ref 1)), (2, [], .s (.int .i64 n))], [(6, .sl .own 61 3 zz encLoad zLoad), (5, .box 24 [.ref 6, .int .i64 b.rule, .int .i64 b.most]), (4, .box 24 [.ref 0, .int .i64 b.rule, .int .i64 b.most]), (0, .sl .ro 61 3 b.loads encLoad zLoad), (1, .sl .ro 3 1 bits encI 0), (2, .pf NobodyAt (· = 1)), (3, .pf LanesAt (· = 0))], 7, []⟩) (fun (k1 : Nat) (zz : (List Load)) => zz.length ≤ k1) (by simp) ⟨0, rfl, Le.trans (Le_nil (id := 5) (j := 0) (ty := 24) (e := 61) (cs := [.v (.slice none 0 0), .int .i64 b.rule, .int .i64 b.most]) (by kernel_rfl) (by kernel_rfl) (sz := 3) encLoad zLoad (fun _ => rfl) (by kernel_rfl)) (Le_sel (ts := [8, 7, 3, 1, 2]) (ids := [6, 5, 4, 0, 1, 2, 3]) (nx := 7) (by kernel_rfl))⟩ ?_ ?_
  · intro k1 v1_1 hn1 hp1 hi1 Q1 hq1 ho1
    replace hp1 : v1_1.length ≤ k1 := hp1
    refine WP_seq (WP_seq (WP_region (WPO_all tt_ok (by kernel_rfl) ?_)))
    refine WP_cond (decide ((k1 : Int) < (b.loads.length : Int))) (by kernel_rfl) (fun hc3 => ?_) (fun hc3 => ?_)
    rotate_left
    · refine WP_exit ?_
      show Q1 (.exit 0) _
      exact LA_exit hq1 v1_1 (loopR_end hi1 hc3) ⟨k1, hn1, hp1⟩ (Le_sel (ts := [7, 3, 1, 2]) (ids := [6, 5, 4, 0, 1, 2, 3]) (nx := 7) (by kernel_rfl))
    have hc3' := of_decide_eq_true hc3
    have hk1 : k1 < b.loads.length := by omega
    refine WP_skip ?_
    refine WP_seq (WP_block ?_)
    refine WP_toX (σ := Unit) (fun _ => ⟨241, [(8, [], .s (.int .i64 (k1 : Int))), (7, [], .s (.p 5 0)), (3, [], .s (.p 4 0)), (1, [], .s (.ref 1)), (2, [], .s (.int .i64 n))], [(8, .sl .own 61 3 (v1_1 ++ ([(loadL (b.loads.getD k1 zLoad).w (flippedL (b.loads.getD k1 zLoad).lanes))])) encLoad zLoad), (5, .box 24 [.ref 8, .int .i64 b.rule, .int .i64 b.most]), (4, .box 24 [.ref 0, .int .i64 b.rule, .int .i64 b.most]), (0, .sl .ro 61 3 b.loads encLoad zLoad), (1, .sl .ro 3 1 bits encI 0), (2, .pf NobodyAt (· = 1)), (3, .pf LanesAt (· = 0))], 9, []⟩) ?_ ?_
    · refine WP_drawHM 19 [6] [5] (by kernel_rfl) (by kernel_rfl) ?_
      refine H_run tt_ok [0, 1, 2, 3, 4] (f' := 14) (by kernel_rfl) (by kernel_rfl) (by kernel_rfl) ?_
      refine H_IX tt_ok 5 (k1 : Int) b.loads.length [] (by kernel_rfl) (fun hG => ⟨by omega, by omega⟩) (by kernel_rfl) (by kernel_rfl) ?_
      refine H_run tt_ok [8, 9, 10] (f' := 10) (by kernel_rfl) (by kernel_rfl) (by kernel_rfl) ?_
      refine H_IX tt_ok 11 (k1 : Int) b.loads.length [] (by kernel_rfl) (fun hG => ⟨by omega, by omega⟩) (by kernel_rfl) (by kernel_rfl) ?_
      refine H_two 6 12 (by kernel_rfl) (by kernel_rfl) (by kernel_rfl) (fun hfz cx' hx1 hx2 => ?_) (fun hfz cx' hx1 hx2 => ?_)
      · refine WPO_all tt_ok (by kernel_rfl) ?_
        refine ⟨rfl, (hfz.fnds [5, 4, 0, 1, 2, 3] (by kernel_rfl) ⟨by kernel_rfl, by kernel_rfl, by kernel_rfl, by kernel_rfl, by kernel_rfl, by kernel_rfl, trivial⟩ (by kernel_rfl)), ?_⟩
        refine H_run tt_ok [7] (f' := 7) (by kernel_rfl) (by kernel_rfl) (by kernel_rfl) ?_
        refine H_step 12 (by kernel_rfl) (by kernel_rfl) (fun hfz cx' hx1 hx2 => ?_)
        refine WPO_all tt_ok (by kernel_rfl) ?_
        refine ⟨rfl, (hfz.fnds [5, 4, 0, 1, 2, 3] (by kernel_rfl) ⟨by kernel_rfl, by kernel_rfl, by kernel_rfl, by kernel_rfl, by kernel_rfl, by kernel_rfl, trivial⟩ (by kernel_rfl)), ?_⟩
        refine H_run tt_ok [13] (f' := 5) (by kernel_rfl) (by kernel_rfl) (by kernel_rfl) ?_
        refine H_step 14 (by kernel_rfl) (by kernel_rfl) (fun hfz cx' hx1 hx2 => ?_)
        refine CALL 43 [.s (.int .i64 (b.loads.getD k1 zLoad).lanes)] (.s (.int .i64 (flippedL (b.loads.getD k1 zLoad).lanes))) [] (by kernel_rfl) (goes_of (by kernel_rfl)) (by kernel_rfl) (by kernel_rfl) (fun hG nV w h => flippedL_calls  (b.loads.getD k1 zLoad).lanes w  ) ?_
        refine WPO_end (by kernel_rfl) ⟨rfl, (hfz.fnds [5, 4, 0, 1, 2, 3] (by kernel_rfl) ⟨by kernel_rfl, by kernel_rfl, by kernel_rfl, by kernel_rfl, by kernel_rfl, by kernel_rfl, trivial⟩ (by kernel_rfl)), ?_⟩
        refine H_step 15 (by kernel_rfl) (by kernel_rfl) (fun hfz cx' hx1 hx2 => ?_)
        refine CALL 42 [.g [.int .i64 (b.loads.getD k1 zLoad).w.lo, .int .i64 (b.loads.getD k1 zLoad).w.hi], .s (.int .i64 (flippedL (b.loads.getD k1 zLoad).lanes))] (.g [.int .i64 (loadL (b.loads.getD k1 zLoad).w (flippedL (b.loads.getD k1 zLoad).lanes)).w.lo, .int .i64 (loadL (b.loads.getD k1 zLoad).w (flippedL (b.loads.getD k1 zLoad).lanes)).w.hi, .int .i64 (loadL (b.loads.getD k1 zLoad).w (flippedL (b.loads.getD k1 zLoad).lanes)).lanes]) [] (by kernel_rfl) (goes_of (by kernel_rfl)) (by kernel_rfl) (by kernel_rfl) (fun hG nV w h => loadL_calls  (b.loads.getD k1 zLoad).w (flippedL (b.loads.getD k1 zLoad).lanes) w  ) ?_
        refine WPO_end (by kernel_rfl) ⟨rfl, (hfz.fnds [5, 4, 0, 1, 2, 3] (by kernel_rfl) ⟨by kernel_rfl, by kernel_rfl, by kernel_rfl, by kernel_rfl, by kernel_rfl, by kernel_rfl, trivial⟩ (by kernel_rfl)), ?_⟩
        refine H_step 16 (by kernel_rfl) (by kernel_rfl) (fun hfz cx' hx1 hx2 => ?_)
        refine LIT tt_ok (by kernel_rfl) ?_
        refine LITSL 7 61 1 3 [.int .i64 (loadL (b.loads.getD k1 zLoad).w (flippedL (b.loads.getD k1 zLoad).lanes)).w.lo, .int .i64 (loadL (b.loads.getD k1 zLoad).w (flippedL (b.loads.getD k1 zLoad).lanes)).w.hi, .int .i64 (loadL (b.loads.getD k1 zLoad).w (flippedL (b.loads.getD k1 zLoad).lanes)).lanes] [(loadL (b.loads.getD k1 zLoad).w (flippedL (b.loads.getD k1 zLoad).lanes))] encLoad zLoad (by kernel_rfl) rfl (fun _ => rfl) (fun n => rfl) ?_
        refine WPO_end (by kernel_rfl) ⟨rfl, (hfz.fnds [5, 4, 0, 1, 2, 3] (by kernel_rfl) ⟨by kernel_rfl, by kernel_rfl, by kernel_rfl, by kernel_rfl, by kernel_rfl, by kernel_rfl, trivial⟩ (by kernel_rfl)), ?_⟩
        refine H_step 17 (by kernel_rfl) (by kernel_rfl) (fun hfz cx' hx1 hx2 => ?_)
        refine APP tt_ok (.s (.ref 6)) (.s (.ref 7)) 22 61 (some 56) 3 v1_1 ([(loadL (b.loads.getD k1 zLoad).w (flippedL (b.loads.getD k1 zLoad).lanes))]) encLoad zLoad (by kernel_rfl) (by kernel_rfl) (by kernel_rfl) (by kernel_rfl) (.inr (.inl ⟨6, rfl, (by kernel_rfl)⟩)) (.inr ⟨7, .own, rfl, (by kernel_rfl), (by simp only [List.length_cons, List.length_nil]; omega)⟩) (by simp) (fun y => rfl) (fun y => List.all_eq_true.1 rfl) (fun i hi => (by have hby : (tyL tt 61).map (·.bytes) = some 24 := (by kernel_rfl); rw [hi] at hby; simp only [Option.map_some, Option.some.injEq] at hby; rw [hby]; simp only [List.length_append, List.length_cons, List.length_nil]; omega)) ?_
        refine WPO_end (by kernel_rfl) ⟨rfl, (hfz.fnds [5, 4, 0, 1, 2, 3] (by kernel_rfl) ⟨by kernel_rfl, by kernel_rfl, by kernel_rfl, by kernel_rfl, by kernel_rfl, by kernel_rfl, trivial⟩ (by kernel_rfl)), ?_⟩
        refine H_run tt_ok [18] (f' := 0) (by kernel_rfl) (by kernel_rfl) (by kernel_rfl) ?_
        refine H_done (by kernel_rfl) ?_
        refine ⟨(by kernel_rfl), ?_⟩
        refine H_step 19 (by kernel_rfl) (by kernel_rfl) (fun hfz cx' hx1 hx2 => ?_)
        refine WPO_all tt_ok (by kernel_rfl) ?_
        refine ⟨rfl, (hfz.fnds [8, 7, 4, 0, 1, 2, 3] (by kernel_rfl) ⟨by kernel_rfl, by kernel_rfl, by kernel_rfl, by kernel_rfl, by kernel_rfl, by kernel_rfl, by kernel_rfl, trivial⟩ (by kernel_rfl)), ?_⟩
        refine H_done (by kernel_rfl) ?_
        exact ⟨(), Le_sel (ts := [8, 7, 3, 1, 2]) (ids := [8, 5, 4, 0, 1, 2, 3]) (nx := 9) (by kernel_rfl)⟩
      · refine WPO_all tt_ok (by kernel_rfl) ?_
        refine ⟨rfl, (hfz.fnds [5, 4, 0, 1, 2, 3] (by kernel_rfl) ⟨by kernel_rfl, by kernel_rfl, by kernel_rfl, by kernel_rfl, by kernel_rfl, by kernel_rfl, trivial⟩ (by kernel_rfl)), ?_⟩
        refine H_run tt_ok [13] (f' := 7) (by kernel_rfl) (by kernel_rfl) (by kernel_rfl) ?_
        refine H_two 6 14 (by kernel_rfl) (by kernel_rfl) (by kernel_rfl) (fun hfz cx' hx1 hx2 => ?_) (fun hfz cx' hx1 hx2 => ?_)
        · refine WPO_all tt_ok (by kernel_rfl) ?_
          refine ⟨rfl, (hfz.fnds [5, 4, 0, 1, 2, 3] (by kernel_rfl) ⟨by kernel_rfl, by kernel_rfl, by kernel_rfl, by kernel_rfl, by kernel_rfl, by kernel_rfl, trivial⟩ (by kernel_rfl)), ?_⟩
          refine H_run tt_ok [7] (f' := 5) (by kernel_rfl) (by kernel_rfl) (by kernel_rfl) ?_
          refine H_step 14 (by kernel_rfl) (by kernel_rfl) (fun hfz cx' hx1 hx2 => ?_)
          refine CALL 43 [.s (.int .i64 (b.loads.getD k1 zLoad).lanes)] (.s (.int .i64 (flippedL (b.loads.getD k1 zLoad).lanes))) [] (by kernel_rfl) (goes_of (by kernel_rfl)) (by kernel_rfl) (by kernel_rfl) (fun hG nV w h => flippedL_calls  (b.loads.getD k1 zLoad).lanes w  ) ?_
          refine WPO_end (by kernel_rfl) ⟨rfl, (hfz.fnds [5, 4, 0, 1, 2, 3] (by kernel_rfl) ⟨by kernel_rfl, by kernel_rfl, by kernel_rfl, by kernel_rfl, by kernel_rfl, by kernel_rfl, trivial⟩ (by kernel_rfl)), ?_⟩
          refine H_step 15 (by kernel_rfl) (by kernel_rfl) (fun hfz cx' hx1 hx2 => ?_)
          refine CALL 42 [.g [.int .i64 (b.loads.getD k1 zLoad).w.lo, .int .i64 (b.loads.getD k1 zLoad).w.hi], .s (.int .i64 (flippedL (b.loads.getD k1 zLoad).lanes))] (.g [.int .i64 (loadL (b.loads.getD k1 zLoad).w (flippedL (b.loads.getD k1 zLoad).lanes)).w.lo, .int .i64 (loadL (b.loads.getD k1 zLoad).w (flippedL (b.loads.getD k1 zLoad).lanes)).w.hi, .int .i64 (loadL (b.loads.getD k1 zLoad).w (flippedL (b.loads.getD k1 zLoad).lanes)).lanes]) [] (by kernel_rfl) (goes_of (by kernel_rfl)) (by kernel_rfl) (by kernel_rfl) (fun hG nV w h => loadL_calls  (b.loads.getD k1 zLoad).w (flippedL (b.loads.getD k1 zLoad).lanes) w  ) ?_
          refine WPO_end (by kernel_rfl) ⟨rfl, (hfz.fnds [5, 4, 0, 1, 2, 3] (by kernel_rfl) ⟨by kernel_rfl, by kernel_rfl, by kernel_rfl, by kernel_rfl, by kernel_rfl, by kernel_rfl, trivial⟩ (by kernel_rfl)), ?_⟩
          refine H_step 16 (by kernel_rfl) (by kernel_rfl) (fun hfz cx' hx1 hx2 => ?_)
          refine LIT tt_ok (by kernel_rfl) ?_
          refine LITSL 7 61 1 3 [.int .i64 (loadL (b.loads.getD k1 zLoad).w (flippedL (b.loads.getD k1 zLoad).lanes)).w.lo, .int .i64 (loadL (b.loads.getD k1 zLoad).w (flippedL (b.loads.getD k1 zLoad).lanes)).w.hi, .int .i64 (loadL (b.loads.getD k1 zLoad).w (flippedL (b.loads.getD k1 zLoad).lanes)).lanes] [(loadL (b.loads.getD k1 zLoad).w (flippedL (b.loads.getD k1 zLoad).lanes))] encLoad zLoad (by kernel_rfl) rfl (fun _ => rfl) (fun n => rfl) ?_
          refine WPO_end (by kernel_rfl) ⟨rfl, (hfz.fnds [5, 4, 0, 1, 2, 3] (by kernel_rfl) ⟨by kernel_rfl, by kernel_rfl, by kernel_rfl, by kernel_rfl, by kernel_rfl, by kernel_rfl, trivial⟩ (by kernel_rfl)), ?_⟩
          refine H_step 17 (by kernel_rfl) (by kernel_rfl) (fun hfz cx' hx1 hx2 => ?_)
          refine APP tt_ok (.s (.ref 6)) (.s (.ref 7)) 22 61 (some 56) 3 v1_1 ([(loadL (b.loads.getD k1 zLoad).w (flippedL (b.loads.getD k1 zLoad).lanes))]) encLoad zLoad (by kernel_rfl) (by kernel_rfl) (by kernel_rfl) (by kernel_rfl) (.inr (.inl ⟨6, rfl, (by kernel_rfl)⟩)) (.inr ⟨7, .own, rfl, (by kernel_rfl), (by simp only [List.length_cons, List.length_nil]; omega)⟩) (by simp) (fun y => rfl) (fun y => List.all_eq_true.1 rfl) (fun i hi => (by have hby : (tyL tt 61).map (·.bytes) = some 24 := (by kernel_rfl); rw [hi] at hby; simp only [Option.map_some, Option.some.injEq] at hby; rw [hby]; simp only [List.length_append, List.length_cons, List.length_nil]; omega)) ?_
          refine WPO_end (by kernel_rfl) ⟨rfl, (hfz.fnds [5, 4, 0, 1, 2, 3] (by kernel_rfl) ⟨by kernel_rfl, by kernel_rfl, by kernel_rfl, by kernel_rfl, by kernel_rfl, by kernel_rfl, trivial⟩ (by kernel_rfl)), ?_⟩
          refine H_run tt_ok [18] (f' := 0) (by kernel_rfl) (by kernel_rfl) (by kernel_rfl) ?_
          refine H_done (by kernel_rfl) ?_
          refine ⟨(by kernel_rfl), ?_⟩
          refine H_step 19 (by kernel_rfl) (by kernel_rfl) (fun hfz cx' hx1 hx2 => ?_)
          refine WPO_all tt_ok (by kernel_rfl) ?_
          refine ⟨rfl, (hfz.fnds [8, 7, 4, 0, 1, 2, 3] (by kernel_rfl) ⟨by kernel_rfl, by kernel_rfl, by kernel_rfl, by kernel_rfl, by kernel_rfl, by kernel_rfl, by kernel_rfl, trivial⟩ (by kernel_rfl)), ?_⟩
          refine H_done (by kernel_rfl) ?_
          exact ⟨(), Le_sel (ts := [8, 7, 3, 1, 2]) (ids := [8, 5, 4, 0, 1, 2, 3]) (nx := 9) (by kernel_rfl)⟩
        · refine CALL 43 [.s (.int .i64 (b.loads.getD k1 zLoad).lanes)] (.s (.int .i64 (flippedL (b.loads.getD k1 zLoad).lanes))) [] (by kernel_rfl) (goes_of (by kernel_rfl)) (by kernel_rfl) (by kernel_rfl) (fun hG nV w h => flippedL_calls  (b.loads.getD k1 zLoad).lanes w  ) ?_
          refine WPO_end (by kernel_rfl) ⟨rfl, (hfz.fnds [5, 4, 0, 1, 2, 3] (by kernel_rfl) ⟨by kernel_rfl, by kernel_rfl, by kernel_rfl, by kernel_rfl, by kernel_rfl, by kernel_rfl, trivial⟩ (by kernel_rfl)), ?_⟩
          refine H_step 6 (by kernel_rfl) (by kernel_rfl) (fun hfz cx' hx1 hx2 => ?_)
          refine WPO_all tt_ok (by kernel_rfl) ?_
          refine ⟨rfl, (hfz.fnds [5, 4, 0, 1, 2, 3] (by kernel_rfl) ⟨by kernel_rfl, by kernel_rfl, by kernel_rfl, by kernel_rfl, by kernel_rfl, by kernel_rfl, trivial⟩ (by kernel_rfl)), ?_⟩
          refine H_run tt_ok [7] (f' := 4) (by kernel_rfl) (by kernel_rfl) (by kernel_rfl) ?_
          refine H_step 15 (by kernel_rfl) (by kernel_rfl) (fun hfz cx' hx1 hx2 => ?_)
          refine CALL 42 [.g [.int .i64 (b.loads.getD k1 zLoad).w.lo, .int .i64 (b.loads.getD k1 zLoad).w.hi], .s (.int .i64 (flippedL (b.loads.getD k1 zLoad).lanes))] (.g [.int .i64 (loadL (b.loads.getD k1 zLoad).w (flippedL (b.loads.getD k1 zLoad).lanes)).w.lo, .int .i64 (loadL (b.loads.getD k1 zLoad).w (flippedL (b.loads.getD k1 zLoad).lanes)).w.hi, .int .i64 (loadL (b.loads.getD k1 zLoad).w (flippedL (b.loads.getD k1 zLoad).lanes)).lanes]) [] (by kernel_rfl) (goes_of (by kernel_rfl)) (by kernel_rfl) (by kernel_rfl) (fun hG nV w h => loadL_calls  (b.loads.getD k1 zLoad).w (flippedL (b.loads.getD k1 zLoad).lanes) w  ) ?_
          refine WPO_end (by kernel_rfl) ⟨rfl, (hfz.fnds [5, 4, 0, 1, 2, 3] (by kernel_rfl) ⟨by kernel_rfl, by kernel_rfl, by kernel_rfl, by kernel_rfl, by kernel_rfl, by kernel_rfl, trivial⟩ (by kernel_rfl)), ?_⟩
          refine H_step 16 (by kernel_rfl) (by kernel_rfl) (fun hfz cx' hx1 hx2 => ?_)
          refine LIT tt_ok (by kernel_rfl) ?_
          refine LITSL 7 61 1 3 [.int .i64 (loadL (b.loads.getD k1 zLoad).w (flippedL (b.loads.getD k1 zLoad).lanes)).w.lo, .int .i64 (loadL (b.loads.getD k1 zLoad).w (flippedL (b.loads.getD k1 zLoad).lanes)).w.hi, .int .i64 (loadL (b.loads.getD k1 zLoad).w (flippedL (b.loads.getD k1 zLoad).lanes)).lanes] [(loadL (b.loads.getD k1 zLoad).w (flippedL (b.loads.getD k1 zLoad).lanes))] encLoad zLoad (by kernel_rfl) rfl (fun _ => rfl) (fun n => rfl) ?_
          refine WPO_end (by kernel_rfl) ⟨rfl, (hfz.fnds [5, 4, 0, 1, 2, 3] (by kernel_rfl) ⟨by kernel_rfl, by kernel_rfl, by kernel_rfl, by kernel_rfl, by kernel_rfl, by kernel_rfl, trivial⟩ (by kernel_rfl)), ?_⟩
          refine H_step 17 (by kernel_rfl) (by kernel_rfl) (fun hfz cx' hx1 hx2 => ?_)
          refine APP tt_ok (.s (.ref 6)) (.s (.ref 7)) 22 61 (some 56) 3 v1_1 ([(loadL (b.loads.getD k1 zLoad).w (flippedL (b.loads.getD k1 zLoad).lanes))]) encLoad zLoad (by kernel_rfl) (by kernel_rfl) (by kernel_rfl) (by kernel_rfl) (.inr (.inl ⟨6, rfl, (by kernel_rfl)⟩)) (.inr ⟨7, .own, rfl, (by kernel_rfl), (by simp only [List.length_cons, List.length_nil]; omega)⟩) (by simp) (fun y => rfl) (fun y => List.all_eq_true.1 rfl) (fun i hi => (by have hby : (tyL tt 61).map (·.bytes) = some 24 := (by kernel_rfl); rw [hi] at hby; simp only [Option.map_some, Option.some.injEq] at hby; rw [hby]; simp only [List.length_append, List.length_cons, List.length_nil]; omega)) ?_
          refine WPO_end (by kernel_rfl) ⟨rfl, (hfz.fnds [5, 4, 0, 1, 2, 3] (by kernel_rfl) ⟨by kernel_rfl, by kernel_rfl, by kernel_rfl, by kernel_rfl, by kernel_rfl, by kernel_rfl, trivial⟩ (by kernel_rfl)), ?_⟩
          refine H_run tt_ok [18] (f' := 0) (by kernel_rfl) (by kernel_rfl) (by kernel_rfl) ?_
          refine H_done (by kernel_rfl) ?_
          refine ⟨(by kernel_rfl), ?_⟩
          refine H_step 19 (by kernel_rfl) (by kernel_rfl) (fun hfz cx' hx1 hx2 => ?_)
          refine WPO_all tt_ok (by kernel_rfl) ?_
          refine ⟨rfl, (hfz.fnds [8, 7, 4, 0, 1, 2, 3] (by kernel_rfl) ⟨by kernel_rfl, by kernel_rfl, by kernel_rfl, by kernel_rfl, by kernel_rfl, by kernel_rfl, by kernel_rfl, trivial⟩ (by kernel_rfl)), ?_⟩
          refine H_done (by kernel_rfl) ?_
          exact ⟨(), Le_sel (ts := [8, 7, 3, 1, 2]) (ids := [8, 5, 4, 0, 1, 2, 3]) (nx := 9) (by kernel_rfl)⟩
    intro _
    refine WP_region (WPO_all tt_ok (by kernel_rfl) ?_)
    show Q1 .normal _
    exact LA_go hq1 (ci := IntKind.i64.wrap ((k1 : Int) + 1)) (v1_1 ++ ([(loadL (b.loads.getD k1 zLoad).w (flippedL (b.loads.getD k1 zLoad).lanes))])) hk1 (by show _ = ((k1 + 1 : Nat) : Int); rw [wrapI (by omega) (by omega)]; omega) (loopR_go hi1 hk1 hc3 (rfl)) (by simp only [List.length_append, List.length_cons, List.length_nil]; omega) (Le_ren [(6, 8)] ⟨by kernel_rfl, by kernel_rfl, by kernel_rfl, by kernel_rfl, by kernel_rfl, by kernel_rfl, by kernel_rfl, trivial⟩ ⟨by kernel_rfl, rfl, by kernel_rfl, by kernel_rfl, rfl, by kernel_rfl, by kernel_rfl, rfl, by kernel_rfl, by kernel_rfl, rfl, by kernel_rfl, by kernel_rfl, rfl, by kernel_rfl, trivial⟩ (by kernel_rfl) (by kernel_rfl) (rnm_id (m := 2) (by kernel_rfl)) (by show 2 ≤ 7; decide) (by kernel_rfl) (by kernel_rfl))
  intro u1_0 hR1 hP1 s' hl
  obtain ⟨kP1, hkP1, hpP1⟩ := hP1
  replace hpP1 : u1_0.length ≤ kP1 := hpP1
  refine WP_le hl ?_
  clear hl s'
  refine WP_seq (WP_drawH [] (by kernel_rfl) (by kernel_rfl) ?_)
  refine H_run tt_ok [0, 1, 2, 4] (f' := 3) (by kernel_rfl) (by kernel_rfl) (by kernel_rfl) ?_
  refine H_step 3 (by kernel_rfl) (by kernel_rfl) (fun hfz cx' hx1 hx2 => ?_)
  refine CALLO 28 [.g [.ref 0, .int .i64 b.rule, .int .i64 b.most], .s (.int .i64 n)] (.s (.ref 7)) 3 1 (chosenL b n) encI 0 7 (by kernel_rfl) (by kernel_rfl) (goes_of (by kernel_rfl)) (by kernel_rfl) (by kernel_rfl) (fun _ => rfl) ((fun nV w h => chosenL_calls (nV 0) b n w (h.reads (id := 0) (kd := .ro) (e := 61) (by kernel_rfl)) (by first | assumption | omega))) ?_
  refine WPO_end (by kernel_rfl) ⟨rfl, (hfz.fnds [6, 5, 4, 0, 1, 2, 3] (by kernel_rfl) ⟨by kernel_rfl, by kernel_rfl, by kernel_rfl, by kernel_rfl, by kernel_rfl, by kernel_rfl, by kernel_rfl, trivial⟩ (by kernel_rfl)), ?_⟩
  refine H_step 5 (by kernel_rfl) (by kernel_rfl) (fun hfz cx' hx1 hx2 => ?_)
  refine CALLO 29 [.g [.ref 0, .int .i64 b.rule, .int .i64 b.most], .s (.ref 7), .s (.ref 1)] (.s (.ref 8)) 65 2 (drawnL b (chosenL b n) bits) encPlace zPlace 8 (by kernel_rfl) (by kernel_rfl) (goes_of (by kernel_rfl)) (by kernel_rfl) (by kernel_rfl) (fun _ => rfl) ((fun nV w h => drawnL_calls (nV 0) (nV 7) (nV 1) b (chosenL b n) bits w (h.reads (id := 0) (kd := .ro) (e := 61) (by kernel_rfl)) (h.reads (id := 7) (kd := .own) (e := 3) (by kernel_rfl)) (h.reads (id := 1) (kd := .ro) (e := 3) (by kernel_rfl)) (by first | assumption | omega) (by first | assumption | omega) (by first | assumption | omega))) ?_
  refine WPO_end (by kernel_rfl) ⟨rfl, (hfz.fnds [6, 5, 4, 0, 1, 2, 3] (by kernel_rfl) ⟨by kernel_rfl, by kernel_rfl, by kernel_rfl, by kernel_rfl, by kernel_rfl, by kernel_rfl, by kernel_rfl, trivial⟩ (by kernel_rfl)), ?_⟩
  refine H_run tt_ok [6] (f' := 0) (by kernel_rfl) (by kernel_rfl) (by kernel_rfl) ?_
  refine H_done (by kernel_rfl) ?_
  refine WP_seq (WP_region (WPO_all tt_ok (by kernel_rfl) ?_))
  refine WP_seq (WP_seq (WP_region (WPO_all tt_ok (by kernel_rfl) ?_)))
  refine WP_fact (p := ((drawnL b (chosenL b n) bits).length : Int) ≤ 9223372036854775807) (fun nV aV wV hs => Reads.len (sz := 2) (enc := encPlace) (z := zPlace) (hs.heap.reads (id := 8) (kd := .own) (e := 65) (by kernel_rfl))) (fun hN2 => ?_)
  refine WP_loopA (ρ := Bool) (DeckSidesL_c2 b bits n u1_0) (DeckSidesL_b2 b bits n u1_0) (drawnL b (chosenL b n) bits).length ([]) (fun k : Nat => (k : Int)) (fun (ci : Int) (zz : (List Place)) => ⟨241, [(11, [], .s (.int .i64 ci)), (10, [], .s (.ref 9)), (9, [], .s (.ref 8)), (7, [], .s (.p 5 0)), (3, [], .s (.p 4 0))], [(9, .sl .own 65 2 zz encPlace zPlace), (8, .sl .own 65 2 (drawnL b (chosenL b n) bits) encPlace zPlace), (7, .sl .own 3 1 (chosenL b n) encI 0), (6, .sl .own 61 3 u1_0 encLoad zLoad), (5, .box 24 [.ref 6, .int .i64 b.rule, .int .i64 b.most]), (4, .box 24 [.ref 0, .int .i64 b.rule, .int .i64 b.most]), (0, .sl .ro 61 3 b.loads encLoad zLoad), (1, .sl .ro 3 1 bits encI 0), (2, .pf NobodyAt (· = 1)), (3, .pf LanesAt (· = 0))], 10, []⟩) (fun zz : (List Place) => ⟨241, [(10, [], .s (.ref 9)), (9, [], .s (.ref 8)), (7, [], .s (.p 5 0)), (3, [], .s (.p 4 0))], [(9, .sl .own 65 2 zz encPlace zPlace), (8, .sl .own 65 2 (drawnL b (chosenL b n) bits) encPlace zPlace), (7, .sl .own 3 1 (chosenL b n) encI 0), (6, .sl .own 61 3 u1_0 encLoad zLoad), (5, .box 24 [.ref 6, .int .i64 b.rule, .int .i64 b.most]), (4, .box 24 [.ref 0, .int .i64 b.rule, .int .i64 b.most]), (0, .sl .ro 61 3 b.loads encLoad zLoad), (1, .sl .ro 3 1 bits encI 0), (2, .pf NobodyAt (· = 1)), (3, .pf LanesAt (· = 0))], 10, []⟩) (fun (k2 : Nat) (zz : (List Place)) => zz.length ≤ k2) (by simp) ⟨0, rfl, Le.trans (Le_nilT [10] 65 2 encPlace zPlace (fun _ => rfl)) (Le_sel (ts := [11, 10, 9, 7, 3]) (ids := [9, 8, 7, 6, 5, 4, 0, 1, 2, 3]) (nx := 10) (by kernel_rfl))⟩ ?_ ?_
  · intro k2 v2_1 hn2 hp2 hi2 Q2 hq2 ho2
    replace hp2 : v2_1.length ≤ k2 := hp2
    refine WP_seq (WP_seq (WP_region (WPO_all tt_ok (by kernel_rfl) ?_)))
    refine WP_cond (decide ((k2 : Int) < ((drawnL b (chosenL b n) bits).length : Int))) (by kernel_rfl) (fun hc4 => ?_) (fun hc4 => ?_)
    rotate_left
    · refine WP_exit ?_
      show Q2 (.exit 2) _
      exact LA_exit hq2 v2_1 (loopR_end hi2 hc4) ⟨k2, hn2, hp2⟩ (Le_sel (ts := [10, 9, 7, 3]) (ids := [9, 8, 7, 6, 5, 4, 0, 1, 2, 3]) (nx := 10) (by kernel_rfl))
    have hc4' := of_decide_eq_true hc4
    have hk2 : k2 < (drawnL b (chosenL b n) bits).length := by omega
    refine WP_skip ?_
    refine WP_seq (WP_block ?_)
    refine WP_toX (σ := Unit) (fun _ => ⟨241, [(10, [], .s (.ref 11)), (11, [], .s (.int .i64 (k2 : Int))), (9, [], .s (.ref 8)), (7, [], .s (.p 5 0)), (3, [], .s (.p 4 0))], [(11, .sl .own 65 2 (v2_1 ++ ([(placeL ((drawnL b (chosenL b n) bits).getD k2 zPlace).load (IntKind.i64.wrap (2 - ((drawnL b (chosenL b n) bits).getD k2 zPlace).lane)))])) encPlace zPlace), (8, .sl .own 65 2 (drawnL b (chosenL b n) bits) encPlace zPlace), (7, .sl .own 3 1 (chosenL b n) encI 0), (6, .sl .own 61 3 u1_0 encLoad zLoad), (5, .box 24 [.ref 6, .int .i64 b.rule, .int .i64 b.most]), (4, .box 24 [.ref 0, .int .i64 b.rule, .int .i64 b.most]), (0, .sl .ro 61 3 b.loads encLoad zLoad), (1, .sl .ro 3 1 bits encI 0), (2, .pf NobodyAt (· = 1)), (3, .pf LanesAt (· = 0))], 12, []⟩) ?_ ?_
    · refine WP_drawH [9] (by kernel_rfl) (by kernel_rfl) ?_
      refine H_run tt_ok [0, 1, 2] (f' := 13) (by kernel_rfl) (by kernel_rfl) (by kernel_rfl) ?_
      refine H_IX tt_ok 3 (k2 : Int) (drawnL b (chosenL b n) bits).length [] (by kernel_rfl) (fun hG => ⟨by omega, by omega⟩) (by kernel_rfl) (by kernel_rfl) ?_
      refine H_run tt_ok [6, 7] (f' := 10) (by kernel_rfl) (by kernel_rfl) (by kernel_rfl) ?_
      refine H_IX tt_ok 8 (k2 : Int) (drawnL b (chosenL b n) bits).length [] (by kernel_rfl) (fun hG => ⟨by omega, by omega⟩) (by kernel_rfl) (by kernel_rfl) ?_
      refine H_two 4 9 (by kernel_rfl) (by kernel_rfl) (by kernel_rfl) (fun hfz cx' hx1 hx2 => ?_) (fun hfz cx' hx1 hx2 => ?_)
      · refine WPO_all tt_ok (by kernel_rfl) ?_
        refine ⟨rfl, (hfz.fnds [8, 7, 6, 5, 4, 0, 1, 2, 3] (by kernel_rfl) ⟨by kernel_rfl, by kernel_rfl, by kernel_rfl, by kernel_rfl, by kernel_rfl, by kernel_rfl, by kernel_rfl, by kernel_rfl, by kernel_rfl, trivial⟩ (by kernel_rfl)), ?_⟩
        refine H_run tt_ok [5] (f' := 7) (by kernel_rfl) (by kernel_rfl) (by kernel_rfl) ?_
        refine H_step 9 (by kernel_rfl) (by kernel_rfl) (fun hfz cx' hx1 hx2 => ?_)
        refine WPO_all tt_ok (by kernel_rfl) ?_
        refine ⟨rfl, (hfz.fnds [8, 7, 6, 5, 4, 0, 1, 2, 3] (by kernel_rfl) ⟨by kernel_rfl, by kernel_rfl, by kernel_rfl, by kernel_rfl, by kernel_rfl, by kernel_rfl, by kernel_rfl, by kernel_rfl, by kernel_rfl, trivial⟩ (by kernel_rfl)), ?_⟩
        refine H_run tt_ok [10, 11] (f' := 4) (by kernel_rfl) (by kernel_rfl) (by kernel_rfl) ?_
        refine H_step 12 (by kernel_rfl) (by kernel_rfl) (fun hfz cx' hx1 hx2 => ?_)
        refine CALL 44 [.s (.int .i64 ((drawnL b (chosenL b n) bits).getD k2 zPlace).load), .s (.int .i64 (IntKind.i64.wrap (2 - ((drawnL b (chosenL b n) bits).getD k2 zPlace).lane)))] (.g [.int .i64 (placeL ((drawnL b (chosenL b n) bits).getD k2 zPlace).load (IntKind.i64.wrap (2 - ((drawnL b (chosenL b n) bits).getD k2 zPlace).lane))).load, .int .i64 (placeL ((drawnL b (chosenL b n) bits).getD k2 zPlace).load (IntKind.i64.wrap (2 - ((drawnL b (chosenL b n) bits).getD k2 zPlace).lane))).lane]) [] (by kernel_rfl) (goes_of (by kernel_rfl)) (by kernel_rfl) (by kernel_rfl) (fun hG nV w h => placeL_calls  ((drawnL b (chosenL b n) bits).getD k2 zPlace).load (IntKind.i64.wrap (2 - ((drawnL b (chosenL b n) bits).getD k2 zPlace).lane)) w  ) ?_
        refine WPO_end (by kernel_rfl) ⟨rfl, (hfz.fnds [8, 7, 6, 5, 4, 0, 1, 2, 3] (by kernel_rfl) ⟨by kernel_rfl, by kernel_rfl, by kernel_rfl, by kernel_rfl, by kernel_rfl, by kernel_rfl, by kernel_rfl, by kernel_rfl, by kernel_rfl, trivial⟩ (by kernel_rfl)), ?_⟩
        refine H_step 13 (by kernel_rfl) (by kernel_rfl) (fun hfz cx' hx1 hx2 => ?_)
        refine LIT tt_ok (by kernel_rfl) ?_
        refine LITSL 10 65 1 2 [.int .i64 (placeL ((drawnL b (chosenL b n) bits).getD k2 zPlace).load (IntKind.i64.wrap (2 - ((drawnL b (chosenL b n) bits).getD k2 zPlace).lane))).load, .int .i64 (placeL ((drawnL b (chosenL b n) bits).getD k2 zPlace).load (IntKind.i64.wrap (2 - ((drawnL b (chosenL b n) bits).getD k2 zPlace).lane))).lane] [(placeL ((drawnL b (chosenL b n) bits).getD k2 zPlace).load (IntKind.i64.wrap (2 - ((drawnL b (chosenL b n) bits).getD k2 zPlace).lane)))] encPlace zPlace (by kernel_rfl) rfl (fun _ => rfl) (fun n => rfl) ?_
        refine WPO_end (by kernel_rfl) ⟨rfl, (hfz.fnds [8, 7, 6, 5, 4, 0, 1, 2, 3] (by kernel_rfl) ⟨by kernel_rfl, by kernel_rfl, by kernel_rfl, by kernel_rfl, by kernel_rfl, by kernel_rfl, by kernel_rfl, by kernel_rfl, by kernel_rfl, trivial⟩ (by kernel_rfl)), ?_⟩
        refine H_step 14 (by kernel_rfl) (by kernel_rfl) (fun hfz cx' hx1 hx2 => ?_)
        refine APP tt_ok (.s (.ref 9)) (.s (.ref 10)) 25 65 (some 84) 2 v2_1 ([(placeL ((drawnL b (chosenL b n) bits).getD k2 zPlace).load (IntKind.i64.wrap (2 - ((drawnL b (chosenL b n) bits).getD k2 zPlace).lane)))]) encPlace zPlace (by kernel_rfl) (by kernel_rfl) (by kernel_rfl) (by kernel_rfl) (.inr (.inl ⟨9, rfl, (by kernel_rfl)⟩)) (.inr ⟨10, .own, rfl, (by kernel_rfl), (by simp only [List.length_cons, List.length_nil]; omega)⟩) (by simp) (fun y => rfl) (fun y => List.all_eq_true.1 rfl) (fun i hi => (by have hby : (tyL tt 65).map (·.bytes) = some 16 := (by kernel_rfl); rw [hi] at hby; simp only [Option.map_some, Option.some.injEq] at hby; rw [hby]; simp only [List.length_append, List.length_cons, List.length_nil]; omega)) ?_
        refine WPO_end (by kernel_rfl) ⟨rfl, (hfz.fnds [8, 7, 6, 5, 4, 0, 1, 2, 3] (by kernel_rfl) ⟨by kernel_rfl, by kernel_rfl, by kernel_rfl, by kernel_rfl, by kernel_rfl, by kernel_rfl, by kernel_rfl, by kernel_rfl, by kernel_rfl, trivial⟩ (by kernel_rfl)), ?_⟩
        refine H_run tt_ok [15] (f' := 0) (by kernel_rfl) (by kernel_rfl) (by kernel_rfl) ?_
        refine H_done (by kernel_rfl) ?_
        exact ⟨(), Le_sel (ts := [10, 11, 9, 7, 3]) (ids := [11, 8, 7, 6, 5, 4, 0, 1, 2, 3]) (nx := 12) (by kernel_rfl)⟩
      · refine WPO_all tt_ok (by kernel_rfl) ?_
        refine ⟨rfl, (hfz.fnds [8, 7, 6, 5, 4, 0, 1, 2, 3] (by kernel_rfl) ⟨by kernel_rfl, by kernel_rfl, by kernel_rfl, by kernel_rfl, by kernel_rfl, by kernel_rfl, by kernel_rfl, by kernel_rfl, by kernel_rfl, trivial⟩ (by kernel_rfl)), ?_⟩
        refine H_run tt_ok [10, 11] (f' := 6) (by kernel_rfl) (by kernel_rfl) (by kernel_rfl) ?_
        refine H_step 4 (by kernel_rfl) (by kernel_rfl) (fun hfz cx' hx1 hx2 => ?_)
        refine WPO_all tt_ok (by kernel_rfl) ?_
        refine ⟨rfl, (hfz.fnds [8, 7, 6, 5, 4, 0, 1, 2, 3] (by kernel_rfl) ⟨by kernel_rfl, by kernel_rfl, by kernel_rfl, by kernel_rfl, by kernel_rfl, by kernel_rfl, by kernel_rfl, by kernel_rfl, by kernel_rfl, trivial⟩ (by kernel_rfl)), ?_⟩
        refine H_run tt_ok [5] (f' := 4) (by kernel_rfl) (by kernel_rfl) (by kernel_rfl) ?_
        refine H_step 12 (by kernel_rfl) (by kernel_rfl) (fun hfz cx' hx1 hx2 => ?_)
        refine CALL 44 [.s (.int .i64 ((drawnL b (chosenL b n) bits).getD k2 zPlace).load), .s (.int .i64 (IntKind.i64.wrap (2 - ((drawnL b (chosenL b n) bits).getD k2 zPlace).lane)))] (.g [.int .i64 (placeL ((drawnL b (chosenL b n) bits).getD k2 zPlace).load (IntKind.i64.wrap (2 - ((drawnL b (chosenL b n) bits).getD k2 zPlace).lane))).load, .int .i64 (placeL ((drawnL b (chosenL b n) bits).getD k2 zPlace).load (IntKind.i64.wrap (2 - ((drawnL b (chosenL b n) bits).getD k2 zPlace).lane))).lane]) [] (by kernel_rfl) (goes_of (by kernel_rfl)) (by kernel_rfl) (by kernel_rfl) (fun hG nV w h => placeL_calls  ((drawnL b (chosenL b n) bits).getD k2 zPlace).load (IntKind.i64.wrap (2 - ((drawnL b (chosenL b n) bits).getD k2 zPlace).lane)) w  ) ?_
        refine WPO_end (by kernel_rfl) ⟨rfl, (hfz.fnds [8, 7, 6, 5, 4, 0, 1, 2, 3] (by kernel_rfl) ⟨by kernel_rfl, by kernel_rfl, by kernel_rfl, by kernel_rfl, by kernel_rfl, by kernel_rfl, by kernel_rfl, by kernel_rfl, by kernel_rfl, trivial⟩ (by kernel_rfl)), ?_⟩
        refine H_step 13 (by kernel_rfl) (by kernel_rfl) (fun hfz cx' hx1 hx2 => ?_)
        refine LIT tt_ok (by kernel_rfl) ?_
        refine LITSL 10 65 1 2 [.int .i64 (placeL ((drawnL b (chosenL b n) bits).getD k2 zPlace).load (IntKind.i64.wrap (2 - ((drawnL b (chosenL b n) bits).getD k2 zPlace).lane))).load, .int .i64 (placeL ((drawnL b (chosenL b n) bits).getD k2 zPlace).load (IntKind.i64.wrap (2 - ((drawnL b (chosenL b n) bits).getD k2 zPlace).lane))).lane] [(placeL ((drawnL b (chosenL b n) bits).getD k2 zPlace).load (IntKind.i64.wrap (2 - ((drawnL b (chosenL b n) bits).getD k2 zPlace).lane)))] encPlace zPlace (by kernel_rfl) rfl (fun _ => rfl) (fun n => rfl) ?_
        refine WPO_end (by kernel_rfl) ⟨rfl, (hfz.fnds [8, 7, 6, 5, 4, 0, 1, 2, 3] (by kernel_rfl) ⟨by kernel_rfl, by kernel_rfl, by kernel_rfl, by kernel_rfl, by kernel_rfl, by kernel_rfl, by kernel_rfl, by kernel_rfl, by kernel_rfl, trivial⟩ (by kernel_rfl)), ?_⟩
        refine H_step 14 (by kernel_rfl) (by kernel_rfl) (fun hfz cx' hx1 hx2 => ?_)
        refine APP tt_ok (.s (.ref 9)) (.s (.ref 10)) 25 65 (some 84) 2 v2_1 ([(placeL ((drawnL b (chosenL b n) bits).getD k2 zPlace).load (IntKind.i64.wrap (2 - ((drawnL b (chosenL b n) bits).getD k2 zPlace).lane)))]) encPlace zPlace (by kernel_rfl) (by kernel_rfl) (by kernel_rfl) (by kernel_rfl) (.inr (.inl ⟨9, rfl, (by kernel_rfl)⟩)) (.inr ⟨10, .own, rfl, (by kernel_rfl), (by simp only [List.length_cons, List.length_nil]; omega)⟩) (by simp) (fun y => rfl) (fun y => List.all_eq_true.1 rfl) (fun i hi => (by have hby : (tyL tt 65).map (·.bytes) = some 16 := (by kernel_rfl); rw [hi] at hby; simp only [Option.map_some, Option.some.injEq] at hby; rw [hby]; simp only [List.length_append, List.length_cons, List.length_nil]; omega)) ?_
        refine WPO_end (by kernel_rfl) ⟨rfl, (hfz.fnds [8, 7, 6, 5, 4, 0, 1, 2, 3] (by kernel_rfl) ⟨by kernel_rfl, by kernel_rfl, by kernel_rfl, by kernel_rfl, by kernel_rfl, by kernel_rfl, by kernel_rfl, by kernel_rfl, by kernel_rfl, trivial⟩ (by kernel_rfl)), ?_⟩
        refine H_run tt_ok [15] (f' := 0) (by kernel_rfl) (by kernel_rfl) (by kernel_rfl) ?_
        refine H_done (by kernel_rfl) ?_
        exact ⟨(), Le_sel (ts := [10, 11, 9, 7, 3]) (ids := [11, 8, 7, 6, 5, 4, 0, 1, 2, 3]) (nx := 12) (by kernel_rfl)⟩
    intro _
    refine WP_region (WPO_all tt_ok (by kernel_rfl) ?_)
    show Q2 .normal _
    exact LA_go hq2 (ci := IntKind.i64.wrap ((k2 : Int) + 1)) (v2_1 ++ ([(placeL ((drawnL b (chosenL b n) bits).getD k2 zPlace).load (IntKind.i64.wrap (2 - ((drawnL b (chosenL b n) bits).getD k2 zPlace).lane)))])) hk2 (by show _ = ((k2 + 1 : Nat) : Int); rw [wrapI (by omega) (by omega)]; omega) (loopR_go hi2 hk2 hc4 (rfl)) (by simp only [List.length_append, List.length_cons, List.length_nil]; omega) (Le_ren [(9, 11)] ⟨by kernel_rfl, by kernel_rfl, by kernel_rfl, by kernel_rfl, by kernel_rfl, by kernel_rfl, by kernel_rfl, by kernel_rfl, by kernel_rfl, by kernel_rfl, trivial⟩ ⟨by kernel_rfl, rfl, by kernel_rfl, by kernel_rfl, rfl, by kernel_rfl, by kernel_rfl, rfl, by kernel_rfl, by kernel_rfl, rfl, by kernel_rfl, by kernel_rfl, rfl, by kernel_rfl, trivial⟩ (by kernel_rfl) (by kernel_rfl) (rnm_id (m := 2) (by kernel_rfl)) (by show 2 ≤ 10; decide) (by kernel_rfl) (by kernel_rfl))
  intro u2_0 hR2 hP2 s' hl
  obtain ⟨kP2, hkP2, hpP2⟩ := hP2
  replace hpP2 : u2_0.length ≤ kP2 := hpP2
  refine WP_le hl ?_
  clear hl s'
  refine WP_seq (WP_region (WPO_run tt_ok 2 (by kernel_rfl) ?_))
  refine CALL 30 [.g [.ref 0, .int .i64 b.rule, .int .i64 b.most], .s (.ref 8)] (.t [(true, [.int .i64 (listA b (drawnL b (chosenL b n) bits)).1.lo, .int .i64 (listA b (drawnL b (chosenL b n) bits)).1.hi]), (false, [.int .i64 (listA b (drawnL b (chosenL b n) bits)).2])]) [] (by kernel_rfl) (goes_of (by kernel_rfl)) (by kernel_rfl) (by kernel_rfl) (fun hG nV w h => listA_calls (nV 0) (nV 8) b (drawnL b (chosenL b n) bits) w (h.reads (id := 0) (kd := .ro) (e := 61) (by kernel_rfl)) (h.reads (id := 8) (kd := .own) (e := 65) (by kernel_rfl)) (h.ents (2, .pf NobodyAt (· = 1)) (fnd_mem (by kernel_rfl))).1 (h.ents (3, .pf LanesAt (· = 0)) (fnd_mem (by kernel_rfl))).1 ) ?_
  refine WPO_all tt_ok (by kernel_rfl) ?_
  refine WP_seq (WP_region (WPO_run tt_ok 2 (by kernel_rfl) ?_))
  refine CALL 30 [.g [.ref 6, .int .i64 b.rule, .int .i64 b.most], .s (.ref 9)] (.t [(true, [.int .i64 (listA (⟨u1_0, b.rule, b.most⟩ : DBook) u2_0).1.lo, .int .i64 (listA (⟨u1_0, b.rule, b.most⟩ : DBook) u2_0).1.hi]), (false, [.int .i64 (listA (⟨u1_0, b.rule, b.most⟩ : DBook) u2_0).2])]) [] (by kernel_rfl) (goes_of (by kernel_rfl)) (by kernel_rfl) (by kernel_rfl) (fun hG nV w h => listA_calls (nV 6) (nV 9) (⟨u1_0, b.rule, b.most⟩ : DBook) u2_0 w (h.reads (id := 6) (kd := .own) (e := 61) (by kernel_rfl)) (h.reads (id := 9) (kd := .own) (e := 65) (by kernel_rfl)) (h.ents (2, .pf NobodyAt (· = 1)) (fnd_mem (by kernel_rfl))).1 (h.ents (3, .pf LanesAt (· = 0)) (fnd_mem (by kernel_rfl))).1 ) ?_
  refine WPO_all tt_ok (by kernel_rfl) ?_
  refine WP_seq (WP_region (WPO_run tt_ok 2 (by kernel_rfl) ?_))
  refine CALL 31 [.g [.ref 0, .int .i64 b.rule, .int .i64 b.most], .s (.ref 8)] (.t [(false, [.int .i64 (levelA b (drawnL b (chosenL b n) bits)).1]), (false, [.int .i64 (levelA b (drawnL b (chosenL b n) bits)).2])]) [] (by kernel_rfl) (goes_of (by kernel_rfl)) (by kernel_rfl) (by kernel_rfl) (fun hG nV w h => levelA_calls (nV 0) (nV 8) b (drawnL b (chosenL b n) bits) w (h.reads (id := 0) (kd := .ro) (e := 61) (by kernel_rfl)) (h.reads (id := 8) (kd := .own) (e := 65) (by kernel_rfl)) (h.ents (2, .pf NobodyAt (· = 1)) (fnd_mem (by kernel_rfl))).1 (h.ents (3, .pf LanesAt (· = 0)) (fnd_mem (by kernel_rfl))).1 ) ?_
  refine WPO_all tt_ok (by kernel_rfl) ?_
  refine WP_seq (WP_region (WPO_run tt_ok 2 (by kernel_rfl) ?_))
  refine CALL 31 [.g [.ref 6, .int .i64 b.rule, .int .i64 b.most], .s (.ref 9)] (.t [(false, [.int .i64 (levelA (⟨u1_0, b.rule, b.most⟩ : DBook) u2_0).1]), (false, [.int .i64 (levelA (⟨u1_0, b.rule, b.most⟩ : DBook) u2_0).2])]) [] (by kernel_rfl) (goes_of (by kernel_rfl)) (by kernel_rfl) (by kernel_rfl) (fun hG nV w h => levelA_calls (nV 6) (nV 9) (⟨u1_0, b.rule, b.most⟩ : DBook) u2_0 w (h.reads (id := 6) (kd := .own) (e := 61) (by kernel_rfl)) (h.reads (id := 9) (kd := .own) (e := 65) (by kernel_rfl)) (h.ents (2, .pf NobodyAt (· = 1)) (fnd_mem (by kernel_rfl))).1 (h.ents (3, .pf LanesAt (· = 0)) (fnd_mem (by kernel_rfl))).1 ) ?_
  refine WPO_all tt_ok (by kernel_rfl) ?_
  refine WP_seq (WP_seq (WP_draw (by kernel_rfl) (by kernel_rfl) ?_))
  refine WPQ_run tt_ok 22 (by kernel_rfl) ?_
  refine QCALL 40 [.s (.int .i64 (IntKind.i64.wrap (0 - (listA b (drawnL b (chosenL b n) bits)).1.hi))), .s (.int .i64 (IntKind.i64.wrap (0 - (listA b (drawnL b (chosenL b n) bits)).1.lo)))] (.g [.int .i64 (rangeF (IntKind.i64.wrap (0 - (listA b (drawnL b (chosenL b n) bits)).1.hi)) (IntKind.i64.wrap (0 - (listA b (drawnL b (chosenL b n) bits)).1.lo))).lo, .int .i64 (rangeF (IntKind.i64.wrap (0 - (listA b (drawnL b (chosenL b n) bits)).1.hi)) (IntKind.i64.wrap (0 - (listA b (drawnL b (chosenL b n) bits)).1.lo))).hi]) [(((((listA b (drawnL b (chosenL b n) bits)).2 != 0) || ((listA (⟨u1_0, b.rule, b.most⟩ : DBook) u2_0).2 != 0)) || ((levelA b (drawnL b (chosenL b n) bits)).2 != 0)) || ((levelA (⟨u1_0, b.rule, b.most⟩ : DBook) u2_0).2 != 0), false)] (by kernel_rfl) (goes_of (by kernel_rfl)) (by kernel_rfl) (by kernel_rfl) (fun hG nV w h => rangeF_calls  (IntKind.i64.wrap (0 - (listA b (drawnL b (chosenL b n) bits)).1.hi)) (IntKind.i64.wrap (0 - (listA b (drawnL b (chosenL b n) bits)).1.lo)) w  ) ?_
  refine QBIN .neq 43 (.tmp 124) (.tmp 131) (.g [.int .i64 (listA (⟨u1_0, b.rule, b.most⟩ : DBook) u2_0).1.lo, .int .i64 (listA (⟨u1_0, b.rule, b.most⟩ : DBook) u2_0).1.hi]) (.g [.int .i64 (rangeF (IntKind.i64.wrap (0 - (listA b (drawnL b (chosenL b n) bits)).1.hi)) (IntKind.i64.wrap (0 - (listA b (drawnL b (chosenL b n) bits)).1.lo))).lo, .int .i64 (rangeF (IntKind.i64.wrap (0 - (listA b (drawnL b (chosenL b n) bits)).1.hi)) (IntKind.i64.wrap (0 - (listA b (drawnL b (chosenL b n) bits)).1.lo))).hi]) (.s (.bool (!((listA (⟨u1_0, b.rule, b.most⟩ : DBook) u2_0).1.lo == (rangeF (IntKind.i64.wrap (0 - (listA b (drawnL b (chosenL b n) bits)).1.hi)) (IntKind.i64.wrap (0 - (listA b (drawnL b (chosenL b n) bits)).1.lo))).lo && (listA (⟨u1_0, b.rule, b.most⟩ : DBook) u2_0).1.hi == (rangeF (IntKind.i64.wrap (0 - (listA b (drawnL b (chosenL b n) bits)).1.hi)) (IntKind.i64.wrap (0 - (listA b (drawnL b (chosenL b n) bits)).1.lo))).hi)))) [(((((listA b (drawnL b (chosenL b n) bits)).2 != 0) || ((listA (⟨u1_0, b.rule, b.most⟩ : DBook) u2_0).2 != 0)) || ((levelA b (drawnL b (chosenL b n) bits)).2 != 0)) || ((levelA (⟨u1_0, b.rule, b.most⟩ : DBook) u2_0).2 != 0), false)] (by kernel_rfl) (by kernel_rfl) (by kernel_rfl) (fun _ => BinOk_pairN (by kernel_rfl) _ _ _ _) ?_
  refine WPQ_all tt_ok (by kernel_rfl) ?_
  refine WP_cond (((((((listA b (drawnL b (chosenL b n) bits)).2 != 0) || ((listA (⟨u1_0, b.rule, b.most⟩ : DBook) u2_0).2 != 0)) || ((levelA b (drawnL b (chosenL b n) bits)).2 != 0)) || ((levelA (⟨u1_0, b.rule, b.most⟩ : DBook) u2_0).2 != 0)) || (!((listA (⟨u1_0, b.rule, b.most⟩ : DBook) u2_0).1.lo == (rangeF (IntKind.i64.wrap (0 - (listA b (drawnL b (chosenL b n) bits)).1.hi)) (IntKind.i64.wrap (0 - (listA b (drawnL b (chosenL b n) bits)).1.lo))).lo && (listA (⟨u1_0, b.rule, b.most⟩ : DBook) u2_0).1.hi == (rangeF (IntKind.i64.wrap (0 - (listA b (drawnL b (chosenL b n) bits)).1.hi)) (IntKind.i64.wrap (0 - (listA b (drawnL b (chosenL b n) bits)).1.lo))).hi))) || ((levelA b (drawnL b (chosenL b n) bits)).1 != (levelA (⟨u1_0, b.rule, b.most⟩ : DBook) u2_0).1)) (by kernel_rfl) (fun hc6 => ?_) (fun hc6 => ?_)
  · have hc6' := hc6; try simp only [Bool.and_eq_true, Bool.or_eq_true, Bool.and_eq_false_iff, Bool.or_eq_false_iff, Bool.not_eq_true', Bool.not_eq_false', decide_eq_true_eq, decide_eq_false_iff_not, beq_iff_eq, beq_eq_false_iff_ne, bne_iff_ne, bne_eq_false_iff_eq, ne_eq] at hc6'
    refine WP_seq (WP_region (WPO_all tt_ok (by kernel_rfl) ?_))
    refine WP_ret ?_
    exact ⟨.s (.bool false), by kernel_rfl, fun nV w' h => ⟨by rw [show DeckSidesL b bits n = false from by unfold DeckSidesL; simp only [hc2, hR1, hR2, hc6, cond_true, cond_false]]; rfl, h.bel⟩⟩
  have hc6' := hc6; try simp only [Bool.and_eq_true, Bool.or_eq_true, Bool.and_eq_false_iff, Bool.or_eq_false_iff, Bool.not_eq_true', Bool.not_eq_false', decide_eq_true_eq, decide_eq_false_iff_not, beq_iff_eq, beq_eq_false_iff_ne, bne_iff_ne, bne_eq_false_iff_eq, ne_eq] at hc6'
  refine WP_skip ?_
  refine WP_seq (WP_region (WPO_run tt_ok 2 (by kernel_rfl) ?_))
  refine CALL 32 [.g [.ref 0, .int .i64 b.rule, .int .i64 b.most], .s (.ref 8)] (.t [(false, [.int .i64 (tiltsA b (drawnL b (chosenL b n) bits)).1]), (false, [.int .i64 (tiltsA b (drawnL b (chosenL b n) bits)).2])]) [] (by kernel_rfl) (goes_of (by kernel_rfl)) (by kernel_rfl) (by kernel_rfl) (fun hG nV w h => tiltsA_calls (nV 0) (nV 8) b (drawnL b (chosenL b n) bits) w (h.reads (id := 0) (kd := .ro) (e := 61) (by kernel_rfl)) (h.reads (id := 8) (kd := .own) (e := 65) (by kernel_rfl)) (h.ents (2, .pf NobodyAt (· = 1)) (fnd_mem (by kernel_rfl))).1 (h.ents (3, .pf LanesAt (· = 0)) (fnd_mem (by kernel_rfl))).1 ) ?_
  refine WPO_all tt_ok (by kernel_rfl) ?_
  refine WP_seq (WP_region (WPO_run tt_ok 2 (by kernel_rfl) ?_))
  refine CALL 32 [.g [.ref 6, .int .i64 b.rule, .int .i64 b.most], .s (.ref 9)] (.t [(false, [.int .i64 (tiltsA (⟨u1_0, b.rule, b.most⟩ : DBook) u2_0).1]), (false, [.int .i64 (tiltsA (⟨u1_0, b.rule, b.most⟩ : DBook) u2_0).2])]) [] (by kernel_rfl) (goes_of (by kernel_rfl)) (by kernel_rfl) (by kernel_rfl) (fun hG nV w h => tiltsA_calls (nV 6) (nV 9) (⟨u1_0, b.rule, b.most⟩ : DBook) u2_0 w (h.reads (id := 6) (kd := .own) (e := 61) (by kernel_rfl)) (h.reads (id := 9) (kd := .own) (e := 65) (by kernel_rfl)) (h.ents (2, .pf NobodyAt (· = 1)) (fnd_mem (by kernel_rfl))).1 (h.ents (3, .pf LanesAt (· = 0)) (fnd_mem (by kernel_rfl))).1 ) ?_
  refine WPO_all tt_ok (by kernel_rfl) ?_
  refine WP_seq (WP_region (WPO_run tt_ok 1 (by kernel_rfl) ?_))
  refine CALLR 45 [.g [.ref 0, .int .i64 b.rule, .int .i64 b.most]] (.t [(false, [.ref 12]), (false, [.int .i64 (mostA b).2])]) 3 1 (mostA b).1 encI 0 12 (by kernel_rfl) (by kernel_rfl) (goes_of (by kernel_rfl)) (by kernel_rfl) (by kernel_rfl) (by decide) (fun _ => rfl) (fun nV w h => (mostA_calls (nV 0) b w (h.reads (id := 0) (kd := .ro) (e := 61) (by kernel_rfl)) (h.ents (2, .pf NobodyAt (· = 1)) (fnd_mem (by kernel_rfl))).1 (h.ents (3, .pf LanesAt (· = 0)) (fnd_mem (by kernel_rfl))).1 ).mono fun e w' h1 => weak_fresh h1) ?_
  refine WPO_all tt_ok (by kernel_rfl) ?_
  refine WP_seq (WP_region (WPO_run tt_ok 1 (by kernel_rfl) ?_))
  refine CALLR 45 [.g [.ref 6, .int .i64 b.rule, .int .i64 b.most]] (.t [(false, [.ref 13]), (false, [.int .i64 (mostA (⟨u1_0, b.rule, b.most⟩ : DBook)).2])]) 3 1 (mostA (⟨u1_0, b.rule, b.most⟩ : DBook)).1 encI 0 13 (by kernel_rfl) (by kernel_rfl) (goes_of (by kernel_rfl)) (by kernel_rfl) (by kernel_rfl) (by decide) (fun _ => rfl) (fun nV w h => (mostA_calls (nV 6) (⟨u1_0, b.rule, b.most⟩ : DBook) w (h.reads (id := 6) (kd := .own) (e := 61) (by kernel_rfl)) (h.ents (2, .pf NobodyAt (· = 1)) (fnd_mem (by kernel_rfl))).1 (h.ents (3, .pf LanesAt (· = 0)) (fnd_mem (by kernel_rfl))).1 ).mono fun e w' h1 => weak_fresh h1) ?_
  refine WPO_all tt_ok (by kernel_rfl) ?_
  refine WP_seq (WP_seq (WP_region (WPO_run tt_ok 11 (by kernel_rfl) ?_)))
  refine CALL 24 [.s (.ref 12), .s (.ref 13)] (.s (.bool (alikeF (mostA b).1 (mostA (⟨u1_0, b.rule, b.most⟩ : DBook)).1))) [(((tiltsA b (drawnL b (chosenL b n) bits)).1 != (tiltsA (⟨u1_0, b.rule, b.most⟩ : DBook) u2_0).1) || ((tiltsA b (drawnL b (chosenL b n) bits)).2 != (tiltsA (⟨u1_0, b.rule, b.most⟩ : DBook) u2_0).2), false)] (by kernel_rfl) (goes_of (by kernel_rfl)) (by kernel_rfl) (by kernel_rfl) (fun hG nV w h => alikeF_calls (nV 12) (nV 13) (mostA b).1 (mostA (⟨u1_0, b.rule, b.most⟩ : DBook)).1 w (h.reads (id := 12) (kd := .ro) (e := 3) (by kernel_rfl)) (h.reads (id := 13) (kd := .ro) (e := 3) (by kernel_rfl)) ) ?_
  refine WPO_all tt_ok (by kernel_rfl) ?_
  refine WP_cond (((((tiltsA b (drawnL b (chosenL b n) bits)).1 != (tiltsA (⟨u1_0, b.rule, b.most⟩ : DBook) u2_0).1) || ((tiltsA b (drawnL b (chosenL b n) bits)).2 != (tiltsA (⟨u1_0, b.rule, b.most⟩ : DBook) u2_0).2)) || (!(alikeF (mostA b).1 (mostA (⟨u1_0, b.rule, b.most⟩ : DBook)).1))) || ((mostA b).2 != (mostA (⟨u1_0, b.rule, b.most⟩ : DBook)).2)) (by kernel_rfl) (fun hc8 => ?_) (fun hc8 => ?_)
  · have hc8' := hc8; try simp only [Bool.and_eq_true, Bool.or_eq_true, Bool.and_eq_false_iff, Bool.or_eq_false_iff, Bool.not_eq_true', Bool.not_eq_false', decide_eq_true_eq, decide_eq_false_iff_not, beq_iff_eq, beq_eq_false_iff_ne, bne_iff_ne, bne_eq_false_iff_eq, ne_eq] at hc8'
    refine WP_seq (WP_region (WPO_all tt_ok (by kernel_rfl) ?_))
    refine WP_ret ?_
    exact ⟨.s (.bool false), by kernel_rfl, fun nV w' h => ⟨by rw [show DeckSidesL b bits n = false from by unfold DeckSidesL; simp only [hc2, hR1, hR2, hc6, hc8, cond_true, cond_false]]; rfl, h.bel⟩⟩
  have hc8' := hc8; try simp only [Bool.and_eq_true, Bool.or_eq_true, Bool.and_eq_false_iff, Bool.or_eq_false_iff, Bool.not_eq_true', Bool.not_eq_false', decide_eq_true_eq, decide_eq_false_iff_not, beq_iff_eq, beq_eq_false_iff_ne, bne_iff_ne, bne_eq_false_iff_eq, ne_eq] at hc8'
  refine WP_skip ?_
  refine WP_seq (WP_region (WPO_run tt_ok 1 (by kernel_rfl) ?_))
  refine CALLR 46 [.g [.ref 0, .int .i64 b.rule, .int .i64 b.most]] (.t [(false, [.ref 14]), (false, [.int .i64 (fewestA b).2])]) 3 1 (fewestA b).1 encI 0 14 (by kernel_rfl) (by kernel_rfl) (goes_of (by kernel_rfl)) (by kernel_rfl) (by kernel_rfl) (by decide) (fun _ => rfl) (fun nV w h => (fewestA_calls (nV 0) b w (h.reads (id := 0) (kd := .ro) (e := 61) (by kernel_rfl)) (h.ents (2, .pf NobodyAt (· = 1)) (fnd_mem (by kernel_rfl))).1 (h.ents (3, .pf LanesAt (· = 0)) (fnd_mem (by kernel_rfl))).1 ).mono fun e w' h1 => weak_fresh h1) ?_
  refine WPO_all tt_ok (by kernel_rfl) ?_
  refine WP_seq (WP_region (WPO_run tt_ok 1 (by kernel_rfl) ?_))
  refine CALLR 46 [.g [.ref 6, .int .i64 b.rule, .int .i64 b.most]] (.t [(false, [.ref 15]), (false, [.int .i64 (fewestA (⟨u1_0, b.rule, b.most⟩ : DBook)).2])]) 3 1 (fewestA (⟨u1_0, b.rule, b.most⟩ : DBook)).1 encI 0 15 (by kernel_rfl) (by kernel_rfl) (goes_of (by kernel_rfl)) (by kernel_rfl) (by kernel_rfl) (by decide) (fun _ => rfl) (fun nV w h => (fewestA_calls (nV 6) (⟨u1_0, b.rule, b.most⟩ : DBook) w (h.reads (id := 6) (kd := .own) (e := 61) (by kernel_rfl)) (h.ents (2, .pf NobodyAt (· = 1)) (fnd_mem (by kernel_rfl))).1 (h.ents (3, .pf LanesAt (· = 0)) (fnd_mem (by kernel_rfl))).1 ).mono fun e w' h1 => weak_fresh h1) ?_
  refine WPO_all tt_ok (by kernel_rfl) ?_
  refine WP_seq (WP_region (WPO_run tt_ok 1 (by kernel_rfl) ?_))
  refine CALLR 47 [.g [.ref 0, .int .i64 b.rule, .int .i64 b.most]] (.t [(false, [.ref 16]), (false, [.int .i64 (neverA b).2])]) 3 1 (neverA b).1 encI 0 16 (by kernel_rfl) (by kernel_rfl) (goes_of (by kernel_rfl)) (by kernel_rfl) (by kernel_rfl) (by decide) (fun _ => rfl) (fun nV w h => (neverA_calls (nV 0) b w (h.reads (id := 0) (kd := .ro) (e := 61) (by kernel_rfl)) (h.ents (2, .pf NobodyAt (· = 1)) (fnd_mem (by kernel_rfl))).1 (h.ents (3, .pf LanesAt (· = 0)) (fnd_mem (by kernel_rfl))).1 ).mono fun e w' h1 => weak_fresh h1) ?_
  refine WPO_all tt_ok (by kernel_rfl) ?_
  refine WP_seq (WP_region (WPO_run tt_ok 1 (by kernel_rfl) ?_))
  refine CALLR 47 [.g [.ref 6, .int .i64 b.rule, .int .i64 b.most]] (.t [(false, [.ref 17]), (false, [.int .i64 (neverA (⟨u1_0, b.rule, b.most⟩ : DBook)).2])]) 3 1 (neverA (⟨u1_0, b.rule, b.most⟩ : DBook)).1 encI 0 17 (by kernel_rfl) (by kernel_rfl) (goes_of (by kernel_rfl)) (by kernel_rfl) (by kernel_rfl) (by decide) (fun _ => rfl) (fun nV w h => (neverA_calls (nV 6) (⟨u1_0, b.rule, b.most⟩ : DBook) w (h.reads (id := 6) (kd := .own) (e := 61) (by kernel_rfl)) (h.ents (2, .pf NobodyAt (· = 1)) (fnd_mem (by kernel_rfl))).1 (h.ents (3, .pf LanesAt (· = 0)) (fnd_mem (by kernel_rfl))).1 ).mono fun e w' h1 => weak_fresh h1) ?_
  refine WPO_all tt_ok (by kernel_rfl) ?_
  refine WP_seq (WP_region (WPO_run tt_ok 1 (by kernel_rfl) ?_))
  refine CALL 48 [.g [.ref 0, .int .i64 b.rule, .int .i64 b.most]] (.t [(false, [.int .i64 (weighA b).1]), (false, [.int .i64 (weighA b).2])]) [] (by kernel_rfl) (goes_of (by kernel_rfl)) (by kernel_rfl) (by kernel_rfl) (fun hG nV w h => weighA_calls (nV 0) b w (h.reads (id := 0) (kd := .ro) (e := 61) (by kernel_rfl)) (h.ents (2, .pf NobodyAt (· = 1)) (fnd_mem (by kernel_rfl))).1 (h.ents (3, .pf LanesAt (· = 0)) (fnd_mem (by kernel_rfl))).1 ) ?_
  refine WPO_all tt_ok (by kernel_rfl) ?_
  refine WP_seq (WP_region (WPO_run tt_ok 1 (by kernel_rfl) ?_))
  refine CALL 48 [.g [.ref 6, .int .i64 b.rule, .int .i64 b.most]] (.t [(false, [.int .i64 (weighA (⟨u1_0, b.rule, b.most⟩ : DBook)).1]), (false, [.int .i64 (weighA (⟨u1_0, b.rule, b.most⟩ : DBook)).2])]) [] (by kernel_rfl) (goes_of (by kernel_rfl)) (by kernel_rfl) (by kernel_rfl) (fun hG nV w h => weighA_calls (nV 6) (⟨u1_0, b.rule, b.most⟩ : DBook) w (h.reads (id := 6) (kd := .own) (e := 61) (by kernel_rfl)) (h.ents (2, .pf NobodyAt (· = 1)) (fnd_mem (by kernel_rfl))).1 (h.ents (3, .pf LanesAt (· = 0)) (fnd_mem (by kernel_rfl))).1 ) ?_
  refine WPO_all tt_ok (by kernel_rfl) ?_
  refine WP_seq (WP_region (WPO_run tt_ok 6 (by kernel_rfl) ?_))
  refine CALL 24 [.s (.ref 14), .s (.ref 15)] (.s (.bool (alikeF (fewestA b).1 (fewestA (⟨u1_0, b.rule, b.most⟩ : DBook)).1))) [((fewestA b).2 == (fewestA (⟨u1_0, b.rule, b.most⟩ : DBook)).2, true)] (by kernel_rfl) (goes_of (by kernel_rfl)) (by kernel_rfl) (by kernel_rfl) (fun hG nV w h => alikeF_calls (nV 14) (nV 15) (fewestA b).1 (fewestA (⟨u1_0, b.rule, b.most⟩ : DBook)).1 w (h.reads (id := 14) (kd := .ro) (e := 3) (by kernel_rfl)) (h.reads (id := 15) (kd := .ro) (e := 3) (by kernel_rfl)) ) ?_
  refine WPO_run tt_ok 9 (by kernel_rfl) ?_
  refine CALL 24 [.s (.ref 16), .s (.ref 17)] (.s (.bool (alikeF (neverA b).1 (neverA (⟨u1_0, b.rule, b.most⟩ : DBook)).1))) [((((fewestA b).2 == (fewestA (⟨u1_0, b.rule, b.most⟩ : DBook)).2) && (alikeF (fewestA b).1 (fewestA (⟨u1_0, b.rule, b.most⟩ : DBook)).1)) && ((neverA b).2 == (neverA (⟨u1_0, b.rule, b.most⟩ : DBook)).2), true)] (by kernel_rfl) (goes_of (by kernel_rfl)) (by kernel_rfl) (by kernel_rfl) (fun hG nV w h => alikeF_calls (nV 16) (nV 17) (neverA b).1 (neverA (⟨u1_0, b.rule, b.most⟩ : DBook)).1 w (h.reads (id := 16) (kd := .ro) (e := 3) (by kernel_rfl)) (h.reads (id := 17) (kd := .ro) (e := 3) (by kernel_rfl)) ) ?_
  refine WPO_run tt_ok 12 (by kernel_rfl) ?_
  refine CALL 21 [] (.s (.bool stowedL)) [(((((((fewestA b).2 == (fewestA (⟨u1_0, b.rule, b.most⟩ : DBook)).2) && (alikeF (fewestA b).1 (fewestA (⟨u1_0, b.rule, b.most⟩ : DBook)).1)) && ((neverA b).2 == (neverA (⟨u1_0, b.rule, b.most⟩ : DBook)).2)) && (alikeF (neverA b).1 (neverA (⟨u1_0, b.rule, b.most⟩ : DBook)).1)) && ((weighA b).2 == (weighA (⟨u1_0, b.rule, b.most⟩ : DBook)).2)) && ((weighA b).1 == (weighA (⟨u1_0, b.rule, b.most⟩ : DBook)).1), true)] (by kernel_rfl) (goes_of (by kernel_rfl)) (by kernel_rfl) (by kernel_rfl) (fun hG nV w h => stowedL_calls   w (h.ents (2, .pf NobodyAt (· = 1)) (fnd_mem (by kernel_rfl))).1 (h.ents (3, .pf LanesAt (· = 0)) (fnd_mem (by kernel_rfl))).1 ) ?_
  refine WPO_all tt_ok (by kernel_rfl) ?_
  refine WP_ret ?_
  exact ⟨.s (.bool ((((((((fewestA b).2 == (fewestA (⟨u1_0, b.rule, b.most⟩ : DBook)).2) && (alikeF (fewestA b).1 (fewestA (⟨u1_0, b.rule, b.most⟩ : DBook)).1)) && ((neverA b).2 == (neverA (⟨u1_0, b.rule, b.most⟩ : DBook)).2)) && (alikeF (neverA b).1 (neverA (⟨u1_0, b.rule, b.most⟩ : DBook)).1)) && ((weighA b).2 == (weighA (⟨u1_0, b.rule, b.most⟩ : DBook)).2)) && ((weighA b).1 == (weighA (⟨u1_0, b.rule, b.most⟩ : DBook)).1)) && stowedL)), by kernel_rfl, fun nV w' h => ⟨by rw [show DeckSidesL b bits n = ((((((((fewestA b).2 == (fewestA (⟨u1_0, b.rule, b.most⟩ : DBook)).2) && (alikeF (fewestA b).1 (fewestA (⟨u1_0, b.rule, b.most⟩ : DBook)).1)) && ((neverA b).2 == (neverA (⟨u1_0, b.rule, b.most⟩ : DBook)).2)) && (alikeF (neverA b).1 (neverA (⟨u1_0, b.rule, b.most⟩ : DBook)).1)) && ((weighA b).2 == (weighA (⟨u1_0, b.rule, b.most⟩ : DBook)).2)) && ((weighA b).1 == (weighA (⟨u1_0, b.rule, b.most⟩ : DBook)).1)) && stowedL) from by unfold DeckSidesL; simp only [hc2, hR1, hR2, hc6, hc8, cond_true, cond_false]]; rfl, h.bel⟩⟩
end Go.Proofs.YthfnedbpmdkdjaaDoor.D
namespace Go.Proofs.YthfnedbpmdkdjaaDoor.D
open Go Go.RowKit Go.Proofs.YthfnedbpmdkdjaaDoor.Eng Go.Proofs.YthfnedbpmdkdjaaDoor.Cm
set_option linter.unusedVariables false
set_option linter.unusedSimpArgs false
set_option linter.unusedSectionVars false
theorem foldl_snoc {α β : Type} (f : α → β) : ∀ (l : List α) (v : List β), l.foldl (fun v k => v ++ [f k]) v = v ++ l.map f
  | [], v => by simp
  | x :: xs, v => by rw [List.foldl_cons, foldl_snoc f xs]; simp
theorem flip_is {b : DBook} (hv : ValidD b) : FlipOf b ⟨(List.range b.loads.length).map fun k => loadL (b.loads.getD k zLoad).w (flippedL (b.loads.getD k zLoad).lanes), b.rule, b.most⟩ := by
  have hg : ∀ k, k < b.loads.length → ((List.range b.loads.length).map fun k => loadL (b.loads.getD k zLoad).w (flippedL (b.loads.getD k zLoad).lanes)).getD k zLoad = loadL (b.loads.getD k zLoad).w (flippedL (b.loads.getD k zLoad).lanes) := fun k hk => by
    rw [List.getD_eq_getElem?_getD, List.getElem?_map, List.getElem?_range hk]; rfl
  refine ⟨hv, ⟨by simpa using hv.n, hv.rule, hv.most, fun y hy => ?_⟩, by simp, fun k hk => ?_, rfl, rfl⟩
  · obtain ⟨k, hk, rfl⟩ := List.mem_map.1 hy
    have hl := hv.load (List.mem_range.1 hk)
    exact ⟨hl.1, (flip_lanes hl.2).1⟩
  · have hl := hv.load hk
    simp only [hg k hk]
    exact ⟨rfl, fun l h1 h2 => (flip_lanes hl.2).2 l h1 h2⟩
theorem DeckSides_true (b : DBook) (bits : List Int) (n : Int) : DeckSidesL b bits n = true := by
  unfold DeckSidesL
  rw [stowedL_true]
  cases hs : soundL b with
  | false => rfl
  | true =>
    have hv := sound_iff.1 hs
    obtain ⟨s, hs1, hs2⟩ := chosen_M hv n
    obtain ⟨hok, hset⟩ := drawn_ok hv hs1 bits
    have hlen := drawn_len5 hv s bits
    have hF := flip_is hv
    rw [loopR_foldl (c := DeckSidesL_c1 b bits n) (b := DeckSidesL_b1 b bits n) (fun k (v : List Load) => v ++ [loadL (b.loads.getD k zLoad).w (flippedL (b.loads.getD k zLoad).lanes)]) (fun k v hk => by simp only [DeckSidesL_c1]; rw [decide_eq_true]; omega) (fun k v hk => rfl), foldl_snoc, List.nil_append]
    simp only
    generalize hu : (List.range b.loads.length).map (fun k => loadL (b.loads.getD k zLoad).w (flippedL (b.loads.getD k zLoad).lanes)) = u at *
    generalize hx : (⟨u, b.rule, b.most⟩ : DBook) = x at *
    rw [loopR_foldl (c := DeckSidesL_c2 b bits n u) (b := DeckSidesL_b2 b bits n u) (fun k (v : List Place) => v ++ [placeL ((drawnL b (chosenL b n) bits).getD k zPlace).load (IntKind.i64.wrap (2 - ((drawnL b (chosenL b n) bits).getD k zPlace).lane))]) (fun k v hk => by simp only [DeckSidesL_c2]; rw [decide_eq_true]; omega) (fun k v hk => rfl), foldl_snoc, List.nil_append]
    simp only [hs2]
    generalize hon : drawnL b (M b.loads.length s) bits = on at *
    have hm : (List.range on.length).map (fun k => placeL (on.getD k zPlace).load (IntKind.i64.wrap (2 - (on.getD k zPlace).lane))) = on.map flipP := by
      rw [← list_range (on.map flipP) zPlace, List.length_map]
      refine List.map_congr_left fun k hk => ?_
      have hk := List.mem_range.1 hk
      have h3 := isPl_spec (hok.1 _ (getD_mem (z := zPlace) hk))
      rw [flip_getD on hk, wrapI (by omega) (by omega)]
      rfl
    have hok2 := flip_ok hF hok
    have hB := acc_bounds hv hok.1 hlen on.length (Nat.le_refl _)
    rw [hm, listA_eq hv hok, listA_eq hF.vx hok2, levelA_eq hv hok, levelA_eq hF.vx hok2, flip_tilts hF hok hlen, flip_most hF, flip_fewest hF, flip_never hF, flip_weigh hF, last_acc, last_acc, List.length_map, flip_sure hF hok.1 hlen (Nat.le_refl _), flip_acc hF hok.1 hlen on.length (Nat.le_refl _), mostA_ok hv]
    simp only [rangeF, alike_self]
    rw [wrapI (x := 0 - _) (by omega) (by omega), wrapI (x := 0 - _) (by omega) (by omega)]
    simp
end Go.Proofs.YthfnedbpmdkdjaaDoor.D
namespace Go.Proofs.YthfnedbpmdkdjaaDoor.D
open Go Go.ChangeShapes Go.WideShapes Go.RowKit Go.Proofs.YthfnedbpmdkdjaaDoor.Eng Go.Proofs.YthfnedbpmdkdjaaDoor.Cm
set_option linter.unusedVariables false
set_option linter.unusedSimpArgs false
set_option maxRecDepth 100000
namespace DeckSides
theorem door_met_deckSides (os : Os) (args : Array Value) : laidMetH Tryd.prog Rows.deckSidesRow.laid ((World.doorLaid Tryd.prog 30 os).forCall (fun _ _ => 0) ⟨#[], args, []⟩).memory :=
  laidMetH_of_parts3 (fuel := 8) (laidMet_of_run' 8 (by kernel_rfl) (by kernel_rfl)) (by kernel_rfl) (by kernel_rfl)
theorem contract (H : Type) (enc : TypeId × Value → H) (W : World) (base : Nat) (args : Array Value) (ds gs : List (DataW H)) (before : List MemPlace)
    (hval : ∀ (j : Nat) t v, Tryd.f8.params[j]? = some t → args[j]? = some v → Value.okWide Tryd.prog W .any base t v)
    (hW : DataW.Whole enc Tryd.prog Tryd.f8.params.toList Rows.deckSidesSpec.vars false W args.toList ds gs before)
    (hsz0 : (DataW.weightsEach Tryd.prog (Tryd.f8.params.toList ++ []) (ds ++ gs)).all (fun x => decide (x ≤ reachBytes)) = true) (hL : laidMetH Tryd.prog Rows.deckSidesRow.laid W) (hS : W.ShapedOpen Tryd.prog) :
    Calls Tryd.prog 8 args W fun e W' => ∃ v, e = .returned v ∧ Rows.deckSidesSpec.post enc Tryd.prog Tryd.f8 false true false false W args v W' := by
  have hW' := hW
  obtain ⟨p, q, hA0, hV, rfl, hfz, hnd⟩ := hW
  have hA : DataW.TrodAll enc Tryd.prog W 0 (fun _ => true) true Tryd.f8.params.toList args.toList ds p := hA0
  rw [Tryd.params8] at hA hval hsz0
  clear hA0
  obtain ⟨v0, vs0, d0, ds0, p0, q0, hargs, rfl, rfl, h0, r0⟩ := trodAll_cons hA
  obtain ⟨v1, vs1, d1, ds1, p1, q1, rfl, rfl, rfl, h1, r1⟩ := trodAll_cons r0
  obtain ⟨v2, vs2, d2, ds2, p2, q2, rfl, rfl, rfl, h2, r2⟩ := trodAll_cons r1
  obtain ⟨rfl, rfl, rfl⟩ := trodAll_nil r2
  obtain rfl : args = #[v0, v1, v2] := by apply Array.ext'; rw [hargs]
  obtain ⟨rfl, rfl⟩ := trodVars_none hV
  have hsz : (DataW.weightsEach Tryd.prog [24, 33, 3] [d0, d1, d2]).all (fun x => decide (x ≤ reachBytes)) = true := by simpa using hsz0
  have hb0 : Wb Tryd.prog 24 d0 := Bd_each hsz (j := 0) rfl rfl
  obtain ⟨c0, rfl, ⟨g0_0, x0, y0, q0_0, q0_1, q0_2, _⟩⟩ := arg_agg Tryd.underlying24 (hval 0 24 v0 rfl rfl) h0 hb0 opn24
  rw [agg_of y0] at *
  have hb1 : Wb Tryd.prog 33 d1 := Bd_each hsz (j := 1) rfl rfl
  obtain ⟨x1, q1_0⟩ := arg_slice (φ := fun v => ∃ b : List Int, (Reads W v 1 b encI 0 ∧ (∀ a ∈ b, i64B a) ∧ b.length * 8 ≤ reachBytes)) Tryd.underlying33 (hval 1 33 v1 rfl rfl) h1 hb1 (opn33.mono fun cs ⟨g, b, h1, h2, _⟩ => ⟨g, h1, b, h2⟩)
  obtain ⟨x2, rfl, q2_0⟩ := arg_int Tryd.underlying3 (hval 2 3 v2 rfl rfl) h2
  have ha := deck_of hS hL
  have hc := DeckSidesL_calls g0_0 v1 x0 x1 x2 W q0_0.1 q1_0.1 ha.1 ha.2
  refine hc.mono fun e W' ⟨he, hb⟩ => ?_
  refine ⟨.bool true, he.trans (by rw [DeckSides_true x0 x1 x2]), law_post laidOut (fun u hu => ?_) hW' rfl (by kernel_rfl) Tryd.underlying4 rfl rfl rfl hb⟩
  have hall : ([24, 33, 3] : List TypeId).all (fun u => Tryd.prog.readableRec u && decide (u < Tryd.prog.types.size)) = true := by kernel_rfl
  have hu' : u ∈ ([24, 33, 3] : List TypeId) := hu
  have := List.all_eq_true.1 hall u hu'
  simp only [Bool.and_eq_true, decide_eq_true_eq] at this
  exact this
theorem reads (os : Os) {H : Type} (enc : TypeId × Value → H) : ∃ places, DataW.whole enc Tryd.prog ((World.doorLaid Tryd.prog 30 os).forCall (fun _ _ => 0) ⟨#[], #[.agg #[.slice none 0 0, .int .i64 0, .int .i64 0], .slice none 0 0, .int .i64 0], []⟩).memory Tryd.f8.params.toList Rows.deckSidesSpec.vars false (#[.agg #[.slice none 0 0, .int .i64 0, .int .i64 0], .slice none 0 0, .int .i64 0] : Array Value).toList 8 = some ([.agg [.nil, .lit (.int .i64 0), .lit (.int .i64 0)], .nil, .lit (.int .i64 0)], [], places) :=
  ⟨[], by kernel_rfl⟩
set_option maxRecDepth 100000 in
theorem lifted (os : Os) (started : os.Started) (H : Type) (enc : TypeId × Value → H) (F : Stop.Interp) :
    ReturnsInHanded {} Tryd.checked os 8 .any ((OpenSpec.ofChange Rows.deckSidesSpec).preRow enc Tryd.prog Tryd.f8 Rows.deckSidesRow.domain false Rows.deckSidesRow.laid) (((OpenSpec.ofChange Rows.deckSidesSpec).at F).post enc Tryd.prog Tryd.f8 false true false false) := by
  obtain ⟨places, hx⟩ := reads os enc
  refine returnsInHanded_of_row (C := Tryd.checked) (s := OpenSpec.ofChange Rows.deckSidesSpec) own started (by kernel_rfl) Tryd.func8
    (witness_row_atRef (enc := enc) (C := Tryd.checked) false (World.doorLaid Tryd.prog 30 os) #[.agg #[.slice none 0 0, .int .i64 0, .int .i64 0], .slice none 0 0, .int .i64 0] rfl (by kernel_rfl) (by kernel_rfl) (by kernel_rfl)
      (OpenSpec.preRow_of_cond 8 hx (by kernel_rfl) (fun k hk => by cases hk) (by kernel_rfl) (door_met_deckSides os _))) ?_
  intro W base args ds gs before hval hW _ hcond hsz hL hS _
  exact contract H enc W base args ds gs before hval hW hsz hL hS
theorem said : Rows.DeckSidesSaid :=
  OpenClaim.holds_of_cond 8 Tryd.f8 rfl rfl rfl rfl rfl rfl rfl ⟨rfl, rfl, rfl, rfl, rfl⟩ rfl rfl rfl rfl rfl (by kernel_rfl) Tryd.func8 (by kernel_rfl)
    (of_decide_eq_true (by kernel_rfl)) (by unfold Func.isWrapper; first | (rw [if_pos (by decide +kernel)]; kernel_rfl) | (rw [if_neg (by decide +kernel)]; exact ⟨rfl, rfl⟩))
    (fun os started H enc _ F => by rw [OpenClaim.pre_eq_preRow]; exact lifted os started H enc F)
theorem plain (f : FuncId) (fn : Func) (hf : Tryd.pinned.checked.prog.funcNamed "prow/prowlaw03.DeckSides" = some f) (hfn : Tryd.pinned.checked.prog.funcs[f]? = some fn) :
    false = Tryd.pinned.checked.prog.looks [] ∧ ∀ (j : Nat) t, fn.params[j]? = some t → Tryd.pinned.checked.prog.wantsStandIn t = false := by
  obtain rfl : f = 8 := Option.some.inj ((show Tryd.prog.funcNamed "prow/prowlaw03.DeckSides" = some 8 by kernel_rfl).symm.trans hf) |>.symm
  obtain rfl : fn = Tryd.f8 := (Option.some.inj (Tryd.func8.symm.trans hfn)).symm
  refine ⟨by kernel_rfl, fun j t ht => ?_⟩
  rw [Tryd.params8] at ht
  have hm : t ∈ ([24, 33, 3] : List TypeId) := by simpa using Array.mem_of_getElem? ht
  have hall : (([24, 33, 3] : List TypeId).all fun u => !Tryd.prog.wantsStandIn u) = true := by kernel_rfl
  exact (show Tryd.prog.wantsStandIn t = false by simpa using List.all_eq_true.1 hall t hm)
theorem card : Rows.DeckSidesCardSaid :=
  Claim7.holds_tied_plain_at .later [] _ _ _ _ said (fun _ h => by cases h) (by kernel_rfl) (fun _ h => by cases h) deckSides_row_tie rfl ⟨rfl, rfl⟩ (by kernel_rfl) rfl plain (by kernel_rfl)
end DeckSides
end Go.Proofs.YthfnedbpmdkdjaaDoor.D
theorem Go.Proofs.YthfnedbpmdkdjaaDoor.deckSides_holds : Go.Proofs.YthfnedbpmdkdjaaDoor.Rows.DeckSidesCardSaid := Go.Proofs.YthfnedbpmdkdjaaDoor.D.DeckSides.card
