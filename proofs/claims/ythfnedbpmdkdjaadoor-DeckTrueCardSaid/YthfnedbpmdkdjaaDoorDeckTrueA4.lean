/-
  DeckTrue: for every book, whatever numbers choose, the law returns true, and leaves all as it was. Conditions: none but the row's own.
-/
import Derived.Test.YthfnedbpmdkdjaaDoorDeckTrueA3
import Derived.ArgAppend
import Derived.Below
import Derived.Carry
import Derived.ChangeKeysEq
import Derived.ControlIn
import Derived.Deep.DeepHandedRow
import Derived.Deep.DeepWitnessRowRef
import Derived.Deep.Draws
import Derived.Deep.Quiet
import Derived.Deep.Slices
import Derived.KernelRfl
import Derived.LaidMore
import Derived.Laws.AppendOwn
import Derived.Laws.Cells
import Derived.Laws.CopyRow
import Derived.Laws.IdiomRangeMap
import Derived.Laws.OwnMore
import Derived.Laws.Rows
import Derived.MapKept
import Derived.Maps.AppendAt
import Derived.OpenShut
import Derived.OrdersHeld
import Derived.OrdersIn
import Derived.ProofKit
import Derived.RangeFuncLeaves
import Derived.RangeFuncNested
import Derived.RangeFuncOwn
import Derived.SevenTiedAt
import Derived.SizedLaws
import Derived.Stop.Joined
import Derived.Test.YthfnedbpmdkdjaaDoorCards
import Derived.Test.YthfnedbpmdkdjaaDoorProg
import Derived.Test.YthfnedbpmdkdjaaDoorRows
import Derived.Test.YthfnedbpmdkdjaaDoorTie
import Derived.WalkKit
import Derived.WideKeyRuns
namespace Go.Proofs.YthfnedbpmdkdjaaDoor.D
open Go Go.RowKit Go.Proofs.YthfnedbpmdkdjaaDoor.Eng Go.Proofs.YthfnedbpmdkdjaaDoor.Cm
set_option linter.unusedVariables false
set_option linter.unusedSimpArgs false
set_option linter.unusedSectionVars false
def DeckTrueL_c1 (b : DBook) (bits : List Int) (n : Int) (k1 : Nat) : Unit → Bool := fun _ => decide ((k1 : Int) < ((drawnL b (chosenL b n) bits).length : Int))
def DeckTrueL_b1 (b : DBook) (bits : List Int) (n : Int) (k1 : Nat) : Unit → Bd Unit Bool := fun _ => (bif (!(insideF (leanL (cut (drawnL b (chosenL b n) bits) 0 (IntKind.i64.wrap ((k1 : Int) + 1))) (trulyL b bits)) (IntKind.i64.wrap (0 - b.rule)) b.rule)) && (((tiltsA b (drawnL b (chosenL b n) bits)).2 != 0) || (decide ((tiltsA b (drawnL b (chosenL b n) bits)).1 > (k1 : Int)))) then .ret false else .go ())
def DeckTrueL_c2 (b : DBook) (bits : List Int) (n : Int) (k2 : Nat) : Unit → Bool := fun _ => decide ((k2 : Int) < ((stowA b (chosenL b n)).1.length : Int))
def DeckTrueL_b2 (b : DBook) (bits : List Int) (n : Int) (k2 : Nat) : Unit → Bd Unit Bool := fun _ => (bif !(insideF (leanL (cut (stowA b (chosenL b n)).1 0 (IntKind.i64.wrap ((k2 : Int) + 1))) (trulyL b bits)) (IntKind.i64.wrap (0 - b.rule)) b.rule) then .ret false else .go ())
def DeckTrueL (b : DBook) (bits : List Int) (n : Int) : Bool :=
  (bif !(soundL b) then stowedL else (bif (((((((listA b (drawnL b (chosenL b n) bits)).2 != 0) || ((levelA b (drawnL b (chosenL b n) bits)).2 != 0)) || (((tiltsA b (drawnL b (chosenL b n) bits)).2 != 0) && (((tiltsA b (drawnL b (chosenL b n) bits)).2 != 4) || ((tiltsA b (drawnL b (chosenL b n) bits)).1 != 0)))) || (!(containsF (listA b (drawnL b (chosenL b n) bits)).1 (leanL (drawnL b (chosenL b n) bits) (trulyL b bits))))) || (!(insideF (levelA b (drawnL b (chosenL b n) bits)).1 0 2))) || (((levelA b (drawnL b (chosenL b n) bits)).1 == 2) && (!(insideF (leanL (drawnL b (chosenL b n) bits) (trulyL b bits)) (IntKind.i64.wrap (0 - b.rule)) b.rule)))) || (((levelA b (drawnL b (chosenL b n) bits)).1 == 0) && (insideF (leanL (drawnL b (chosenL b n) bits) (trulyL b bits)) (IntKind.i64.wrap (0 - b.rule)) b.rule)) then false else (match loopR (DeckTrueL_c1 b bits n) (DeckTrueL_b1 b bits n) (drawnL b (chosenL b n) bits).length 0 () with | .brk () => (bif (stowA b (chosenL b n)).2 != 0 then (((stowA b (chosenL b n)).2 == 4) && (((stowA b (chosenL b n)).1.length : Int) == 0)) && stowedL else (bif (!(standsL b (stowA b (chosenL b n)).1 (chosenL b n))) || (decide ((carriedL (chosenL b n) (trulyL b bits)) > b.most)) then false else (match loopR (DeckTrueL_c2 b bits n) (DeckTrueL_b2 b bits n) (stowA b (chosenL b n)).1.length 0 () with | .brk () => stowedL | .ret r => r))) | .ret r => r)))
theorem DeckTrueL_calls (g0 g1 : Value) (b : DBook) (bits : List Int) (n : Int) (w : World) (r0 : Reads w g0 3 b.loads encLoad zLoad) (r1 : Reads w g1 1 bits encI 0) (hnb : NobodyAt w) (hla : LanesAt w) : Calls Tryd.prog 6 #[.agg #[g0, iv b.rule, iv b.most], g1, iv n] w fun e w' => e = .returned (.bool (DeckTrueL b bits n)) ∧ Below w.heap.size w w' := by
  refine calls_of_WP (cx := cx0 w (vn [g0, g1]) 2) (n := vn [g0, g1]) (vs := [.g [.ref 0, .int .i64 b.rule, .int .i64 b.most], .s (.ref 1), .s (.int .i64 n)]) (hp := [(0, .sl .ro 61 3 b.loads encLoad zLoad), (1, .sl .ro 3 1 bits encI 0), (2, .pf NobodyAt (· = 1)), (3, .pf LanesAt (· = 0))]) (nx := 4) tt_ok Tryd.func6 rfl rfl rfl (by kernel_rfl) (HSat_args (vn_one (by simp [r0.one, r1.one])) (by decide) ⟨⟨⟨fun _ => rfl, by decide, r0⟩, (Nat.le_of_ble_eq_true rfl)⟩, ⟨⟨fun _ => rfl, by decide, r1⟩, (Nat.le_of_ble_eq_true rfl)⟩, ⟨⟨hnb, fun w1 w2 h1 hw => (hw 1 rfl).trans h1, fun g hg => by cases hg; exact (Array.getElem?_eq_some_iff.1 hnb).1⟩, (Nat.le_of_ble_eq_true rfl)⟩, ⟨⟨hla, fun w1 w2 h1 hw => (hw 0 rfl).trans h1, fun g hg => by cases hg; exact (Array.getElem?_eq_some_iff.1 hla).1⟩, (Nat.le_of_ble_eq_true rfl)⟩, trivial⟩) (vsOk (by kernel_rfl)) ?_
  have hl0 := Reads.len r0
  have hl1 := Reads.len r1
  refine WP_seq (WP_region (WPO_all tt_ok (by kernel_rfl) ?_))
  refine WP_seq (WP_seq (WP_region (WPO_run tt_ok 1 (by kernel_rfl) ?_)))
  refine CALL 26 [.g [.ref 0, .int .i64 b.rule, .int .i64 b.most]] (.s (.bool (soundL b))) [] (by kernel_rfl) (goes_of (by kernel_rfl)) (by kernel_rfl) (by kernel_rfl) (fun hG nV w h => soundL_calls (nV 0) b w (h.reads (id := 0) (kd := .ro) (e := 61) (by kernel_rfl)) ) ?_
  refine WPO_all tt_ok (by kernel_rfl) ?_
  refine WP_cond (!(soundL b)) (by kernel_rfl) (fun hc2 => ?_) (fun hc2 => ?_)
  · have hc2' := hc2; try simp only [Bool.and_eq_true, Bool.or_eq_true, Bool.and_eq_false_iff, Bool.or_eq_false_iff, Bool.not_eq_true', Bool.not_eq_false', decide_eq_true_eq, decide_eq_false_iff_not, beq_iff_eq, beq_eq_false_iff_ne, bne_iff_ne, bne_eq_false_iff_eq, ne_eq] at hc2'
    refine WP_seq (WP_region (CALL 21 [] (.s (.bool stowedL)) [] (by kernel_rfl) (goes_of (by kernel_rfl)) (by kernel_rfl) (by kernel_rfl) (fun hG nV w h => stowedL_calls   w (h.ents (2, .pf NobodyAt (· = 1)) (fnd_mem (by kernel_rfl))).1 (h.ents (3, .pf LanesAt (· = 0)) (fnd_mem (by kernel_rfl))).1 ) ?_))
    refine WPO_all tt_ok (by kernel_rfl) ?_
    refine WP_ret ?_
    exact ⟨.s (.bool stowedL), by kernel_rfl, fun nV w' h => ⟨by rw [show DeckTrueL b bits n = stowedL from by unfold DeckTrueL; simp only [hc2, cond_true, cond_false]]; rfl, h.bel⟩⟩
  have hc2' := hc2; try simp only [Bool.and_eq_true, Bool.or_eq_true, Bool.and_eq_false_iff, Bool.or_eq_false_iff, Bool.not_eq_true', Bool.not_eq_false', decide_eq_true_eq, decide_eq_false_iff_not, beq_iff_eq, beq_eq_false_iff_ne, bne_iff_ne, bne_eq_false_iff_eq, ne_eq] at hc2'
  refine WP_skip ?_
  have hv : ValidD b := sound_valid (by assumption)
  have hb5 := hv.n.2
  have hn1 := hv.n.1
  have hcm : ∀ x ∈ chosenL b n, 0 ≤ x ∧ x < b.loads.length := fun x hx => chosen_mem hx
  have hcp : ∀ x ∈ chosenL b n, 0 ≤ x := fun x hx => (hcm x hx).1
  have hcl5 : (chosenL b n).length ≤ 5 := Nat.le_trans (chosen_len b n) hb5
  have hdl : (drawnL b (chosenL b n) bits).length ≤ 5 := by rw [drawn_len hcl5]; exact hcl5
  have hdm := drawn_mem (bits := bits) hcl5 hcm
  have htl := truly_len b bits
  have hdw : ∀ x ∈ drawnL b (chosenL b n) bits, 0 ≤ x.load ∧ x.load < ((trulyL b bits).length : Int) := fun x hx => by rw [htl]; exact hdm x hx
  have hcw : ∀ x ∈ chosenL b n, 0 ≤ x ∧ x < ((trulyL b bits).length : Int) := fun x hx => by rw [htl]; exact hcm x hx
  refine WP_seq (WP_drawH [] (by kernel_rfl) (by kernel_rfl) ?_)
  refine H_run tt_ok [0, 1, 3, 4] (f' := 4) (by kernel_rfl) (by kernel_rfl) (by kernel_rfl) ?_
  refine H_step 2 (by kernel_rfl) (by kernel_rfl) (fun hfz cx' hx1 hx2 => ?_)
  refine CALLO 27 [.g [.ref 0, .int .i64 b.rule, .int .i64 b.most], .s (.ref 1)] (.s (.ref 5)) 3 1 (trulyL b bits) encI 0 5 (by kernel_rfl) (by kernel_rfl) (goes_of (by kernel_rfl)) (by kernel_rfl) (by kernel_rfl) (fun _ => rfl) ((fun nV w h => trulyL_calls (nV 0) (nV 1) b bits w (h.reads (id := 0) (kd := .ro) (e := 61) (by kernel_rfl)) (h.reads (id := 1) (kd := .ro) (e := 3) (by kernel_rfl)) (by first | assumption | omega | exact fun x hx => hdm x (mem_cut hx) | exact fun x hx => hdw x (mem_cut hx) | exact fun x hx => hsw x (mem_cut hx)))) ?_
  refine WPO_end (by kernel_rfl) ⟨rfl, (hfz.fnds [4, 0, 1, 2, 3] (by kernel_rfl) ⟨by kernel_rfl, by kernel_rfl, by kernel_rfl, by kernel_rfl, by kernel_rfl, trivial⟩ (by kernel_rfl)), ?_⟩
  refine H_step 5 (by kernel_rfl) (by kernel_rfl) (fun hfz cx' hx1 hx2 => ?_)
  refine CALLO 28 [.g [.ref 0, .int .i64 b.rule, .int .i64 b.most], .s (.int .i64 n)] (.s (.ref 6)) 3 1 (chosenL b n) encI 0 6 (by kernel_rfl) (by kernel_rfl) (goes_of (by kernel_rfl)) (by kernel_rfl) (by kernel_rfl) (fun _ => rfl) ((fun nV w h => chosenL_calls (nV 0) b n w (h.reads (id := 0) (kd := .ro) (e := 61) (by kernel_rfl)) (by first | assumption | omega | exact fun x hx => hdm x (mem_cut hx) | exact fun x hx => hdw x (mem_cut hx) | exact fun x hx => hsw x (mem_cut hx)))) ?_
  refine WPO_end (by kernel_rfl) ⟨rfl, (hfz.fnds [4, 0, 1, 2, 3] (by kernel_rfl) ⟨by kernel_rfl, by kernel_rfl, by kernel_rfl, by kernel_rfl, by kernel_rfl, trivial⟩ (by kernel_rfl)), ?_⟩
  refine H_run tt_ok [6, 7] (f' := 0) (by kernel_rfl) (by kernel_rfl) (by kernel_rfl) ?_
  refine H_done (by kernel_rfl) ?_
  refine WP_seq (WP_region (WPO_run tt_ok 3 (by kernel_rfl) ?_))
  refine CALLO 29 [.g [.ref 0, .int .i64 b.rule, .int .i64 b.most], .s (.ref 6), .s (.ref 1)] (.s (.ref 7)) 65 2 (drawnL b (chosenL b n) bits) encPlace zPlace 7 (by kernel_rfl) (by kernel_rfl) (goes_of (by kernel_rfl)) (by kernel_rfl) (by kernel_rfl) (fun _ => rfl) ((fun nV w h => drawnL_calls (nV 0) (nV 6) (nV 1) b (chosenL b n) bits w (h.reads (id := 0) (kd := .ro) (e := 61) (by kernel_rfl)) (h.reads (id := 6) (kd := .own) (e := 3) (by kernel_rfl)) (h.reads (id := 1) (kd := .ro) (e := 3) (by kernel_rfl)) (by first | assumption | omega | exact fun x hx => hdm x (mem_cut hx) | exact fun x hx => hdw x (mem_cut hx) | exact fun x hx => hsw x (mem_cut hx)) (by first | assumption | omega | exact fun x hx => hdm x (mem_cut hx) | exact fun x hx => hdw x (mem_cut hx) | exact fun x hx => hsw x (mem_cut hx)) (by first | assumption | omega | exact fun x hx => hdm x (mem_cut hx) | exact fun x hx => hdw x (mem_cut hx) | exact fun x hx => hsw x (mem_cut hx)))) ?_
  refine WPO_all tt_ok (by kernel_rfl) ?_
  refine WP_seq (WP_region (WPO_run tt_ok 2 (by kernel_rfl) ?_))
  refine CALL 30 [.g [.ref 0, .int .i64 b.rule, .int .i64 b.most], .s (.ref 7)] (.t [(true, [.int .i64 (listA b (drawnL b (chosenL b n) bits)).1.lo, .int .i64 (listA b (drawnL b (chosenL b n) bits)).1.hi]), (false, [.int .i64 (listA b (drawnL b (chosenL b n) bits)).2])]) [] (by kernel_rfl) (goes_of (by kernel_rfl)) (by kernel_rfl) (by kernel_rfl) (fun hG nV w h => listA_calls (nV 0) (nV 7) b (drawnL b (chosenL b n) bits) w (h.reads (id := 0) (kd := .ro) (e := 61) (by kernel_rfl)) (h.reads (id := 7) (kd := .own) (e := 65) (by kernel_rfl)) (h.ents (2, .pf NobodyAt (· = 1)) (fnd_mem (by kernel_rfl))).1 (h.ents (3, .pf LanesAt (· = 0)) (fnd_mem (by kernel_rfl))).1 ) ?_
  refine WPO_all tt_ok (by kernel_rfl) ?_
  refine WP_seq (WP_region (WPO_run tt_ok 2 (by kernel_rfl) ?_))
  refine CALL 31 [.g [.ref 0, .int .i64 b.rule, .int .i64 b.most], .s (.ref 7)] (.t [(false, [.int .i64 (levelA b (drawnL b (chosenL b n) bits)).1]), (false, [.int .i64 (levelA b (drawnL b (chosenL b n) bits)).2])]) [] (by kernel_rfl) (goes_of (by kernel_rfl)) (by kernel_rfl) (by kernel_rfl) (fun hG nV w h => levelA_calls (nV 0) (nV 7) b (drawnL b (chosenL b n) bits) w (h.reads (id := 0) (kd := .ro) (e := 61) (by kernel_rfl)) (h.reads (id := 7) (kd := .own) (e := 65) (by kernel_rfl)) (h.ents (2, .pf NobodyAt (· = 1)) (fnd_mem (by kernel_rfl))).1 (h.ents (3, .pf LanesAt (· = 0)) (fnd_mem (by kernel_rfl))).1 ) ?_
  refine WPO_all tt_ok (by kernel_rfl) ?_
  refine WP_seq (WP_region (WPO_run tt_ok 2 (by kernel_rfl) ?_))
  refine CALL 32 [.g [.ref 0, .int .i64 b.rule, .int .i64 b.most], .s (.ref 7)] (.t [(false, [.int .i64 (tiltsA b (drawnL b (chosenL b n) bits)).1]), (false, [.int .i64 (tiltsA b (drawnL b (chosenL b n) bits)).2])]) [] (by kernel_rfl) (goes_of (by kernel_rfl)) (by kernel_rfl) (by kernel_rfl) (fun hG nV w h => tiltsA_calls (nV 0) (nV 7) b (drawnL b (chosenL b n) bits) w (h.reads (id := 0) (kd := .ro) (e := 61) (by kernel_rfl)) (h.reads (id := 7) (kd := .own) (e := 65) (by kernel_rfl)) (h.ents (2, .pf NobodyAt (· = 1)) (fnd_mem (by kernel_rfl))).1 (h.ents (3, .pf LanesAt (· = 0)) (fnd_mem (by kernel_rfl))).1 ) ?_
  refine WPO_all tt_ok (by kernel_rfl) ?_
  refine WP_seq (WP_region (WPO_run tt_ok 2 (by kernel_rfl) ?_))
  refine CALL 33 [.s (.ref 7), .s (.ref 5)] (.s (.int .i64 (leanL (drawnL b (chosenL b n) bits) (trulyL b bits)))) [] (by kernel_rfl) (goes_of (by kernel_rfl)) (by kernel_rfl) (by kernel_rfl) (fun hG nV w h => leanL_calls (nV 7) (nV 5) (drawnL b (chosenL b n) bits) (trulyL b bits) w (h.reads (id := 7) (kd := .own) (e := 65) (by kernel_rfl)) (h.reads (id := 5) (kd := .own) (e := 3) (by kernel_rfl)) (by first | assumption | omega | exact fun x hx => hdm x (mem_cut hx) | exact fun x hx => hdw x (mem_cut hx) | exact fun x hx => hsw x (mem_cut hx))) ?_
  refine WPO_all tt_ok (by kernel_rfl) ?_
  refine WP_seq (WP_region (WPO_run tt_ok 6 (by kernel_rfl) ?_))
  refine CALL 34 [.s (.int .i64 (leanL (drawnL b (chosenL b n) bits) (trulyL b bits))), .s (.int .i64 (IntKind.i64.wrap (0 - b.rule))), .s (.int .i64 b.rule)] (.s (.bool (insideF (leanL (drawnL b (chosenL b n) bits) (trulyL b bits)) (IntKind.i64.wrap (0 - b.rule)) b.rule))) [] (by kernel_rfl) (goes_of (by kernel_rfl)) (by kernel_rfl) (by kernel_rfl) (fun hG nV w h => insideF_calls  (leanL (drawnL b (chosenL b n) bits) (trulyL b bits)) (IntKind.i64.wrap (0 - b.rule)) b.rule w  ) ?_
  refine WPO_all tt_ok (by kernel_rfl) ?_
  refine WP_seq (WP_seq (WP_region (WPO_run tt_ok 21 (by kernel_rfl) ?_)))
  refine CALL 35 [.g [.int .i64 (listA b (drawnL b (chosenL b n) bits)).1.lo, .int .i64 (listA b (drawnL b (chosenL b n) bits)).1.hi], .s (.int .i64 (leanL (drawnL b (chosenL b n) bits) (trulyL b bits)))] (.s (.bool (containsF (listA b (drawnL b (chosenL b n) bits)).1 (leanL (drawnL b (chosenL b n) bits) (trulyL b bits))))) [((((listA b (drawnL b (chosenL b n) bits)).2 != 0) || ((levelA b (drawnL b (chosenL b n) bits)).2 != 0)) || (((tiltsA b (drawnL b (chosenL b n) bits)).2 != 0) && (((tiltsA b (drawnL b (chosenL b n) bits)).2 != 4) || ((tiltsA b (drawnL b (chosenL b n) bits)).1 != 0))), false)] (by kernel_rfl) (goes_of (by kernel_rfl)) (by kernel_rfl) (by kernel_rfl) (fun hG nV w h => containsF_calls  (listA b (drawnL b (chosenL b n) bits)).1 (leanL (drawnL b (chosenL b n) bits) (trulyL b bits)) w  ) ?_
  refine WPO_run tt_ok 4 (by kernel_rfl) ?_
  refine CALL 34 [.s (.int .i64 (levelA b (drawnL b (chosenL b n) bits)).1), .s (.int .i64 0), .s (.int .i64 2)] (.s (.bool (insideF (levelA b (drawnL b (chosenL b n) bits)).1 0 2))) [(((((listA b (drawnL b (chosenL b n) bits)).2 != 0) || ((levelA b (drawnL b (chosenL b n) bits)).2 != 0)) || (((tiltsA b (drawnL b (chosenL b n) bits)).2 != 0) && (((tiltsA b (drawnL b (chosenL b n) bits)).2 != 4) || ((tiltsA b (drawnL b (chosenL b n) bits)).1 != 0)))) || (!(containsF (listA b (drawnL b (chosenL b n) bits)).1 (leanL (drawnL b (chosenL b n) bits) (trulyL b bits)))), false)] (by kernel_rfl) (goes_of (by kernel_rfl)) (by kernel_rfl) (by kernel_rfl) (fun hG nV w h => insideF_calls  (levelA b (drawnL b (chosenL b n) bits)).1 0 2 w  ) ?_
  refine WPO_all tt_ok (by kernel_rfl) ?_
  refine WP_cond ((((((((listA b (drawnL b (chosenL b n) bits)).2 != 0) || ((levelA b (drawnL b (chosenL b n) bits)).2 != 0)) || (((tiltsA b (drawnL b (chosenL b n) bits)).2 != 0) && (((tiltsA b (drawnL b (chosenL b n) bits)).2 != 4) || ((tiltsA b (drawnL b (chosenL b n) bits)).1 != 0)))) || (!(containsF (listA b (drawnL b (chosenL b n) bits)).1 (leanL (drawnL b (chosenL b n) bits) (trulyL b bits))))) || (!(insideF (levelA b (drawnL b (chosenL b n) bits)).1 0 2))) || (((levelA b (drawnL b (chosenL b n) bits)).1 == 2) && (!(insideF (leanL (drawnL b (chosenL b n) bits) (trulyL b bits)) (IntKind.i64.wrap (0 - b.rule)) b.rule)))) || (((levelA b (drawnL b (chosenL b n) bits)).1 == 0) && (insideF (leanL (drawnL b (chosenL b n) bits) (trulyL b bits)) (IntKind.i64.wrap (0 - b.rule)) b.rule))) (by kernel_rfl) (fun hc4 => ?_) (fun hc4 => ?_)
  · have hc4' := hc4; try simp only [Bool.and_eq_true, Bool.or_eq_true, Bool.and_eq_false_iff, Bool.or_eq_false_iff, Bool.not_eq_true', Bool.not_eq_false', decide_eq_true_eq, decide_eq_false_iff_not, beq_iff_eq, beq_eq_false_iff_ne, bne_iff_ne, bne_eq_false_iff_eq, ne_eq] at hc4'
    refine WP_seq (WP_region (WPO_all tt_ok (by kernel_rfl) ?_))
    refine WP_ret ?_
    exact ⟨.s (.bool false), by kernel_rfl, fun nV w' h => ⟨by rw [show DeckTrueL b bits n = false from by unfold DeckTrueL; simp only [hc2, hc4, cond_true, cond_false]]; rfl, h.bel⟩⟩
  have hc4' := hc4; try simp only [Bool.and_eq_true, Bool.or_eq_true, Bool.and_eq_false_iff, Bool.or_eq_false_iff, Bool.not_eq_true', Bool.not_eq_false', decide_eq_true_eq, decide_eq_false_iff_not, beq_iff_eq, beq_eq_false_iff_ne, bne_iff_ne, bne_eq_false_iff_eq, ne_eq] at hc4'
  refine WP_skip ?_
  refine WP_le (Le_ro (id := 7) (e := 65) (sz := 2) (li := (drawnL b (chosenL b n) bits)) (enc := encPlace) (z := zPlace) (by kernel_rfl)) ?_
  refine WP_seq (WP_seq (WP_region (WPO_all tt_ok (by kernel_rfl) ?_)))
  refine WP_fact (p := ((drawnL b (chosenL b n) bits).length : Int) ≤ 9223372036854775807) (fun nV aV wV hs => Reads.len (sz := 2) (enc := encPlace) (z := zPlace) (hs.heap.reads (id := 7) (kd := .ro) (e := 65) (by kernel_rfl))) (fun hN1 => ?_)
  refine WP_loopA (ρ := Bool) (DeckTrueL_c1 b bits n) (DeckTrueL_b1 b bits n) (drawnL b (chosenL b n) bits).length () (fun k : Nat => (k : Int)) (fun (ci : Int) (zz : Unit) => ⟨187, [(18, [], .s (.int .i64 ci)), (15, [], .s (.int .i64 (tiltsA b (drawnL b (chosenL b n) bits)).2)), (14, [], .s (.int .i64 (tiltsA b (drawnL b (chosenL b n) bits)).1)), (9, [], .s (.ref 7)), (8, [], .s (.ref 6)), (7, [], .s (.ref 5)), (3, [], .s (.p 4 0))], [(8, .box 43 [.int .i64 (listA b (drawnL b (chosenL b n) bits)).1.lo, .int .i64 (listA b (drawnL b (chosenL b n) bits)).1.hi]), (7, .sl .ro 65 2 (drawnL b (chosenL b n) bits) encPlace zPlace), (6, .sl .own 3 1 (chosenL b n) encI 0), (5, .sl .own 3 1 (trulyL b bits) encI 0), (4, .box 24 [.ref 0, .int .i64 b.rule, .int .i64 b.most]), (0, .sl .ro 61 3 b.loads encLoad zLoad), (1, .sl .ro 3 1 bits encI 0), (2, .pf NobodyAt (· = 1)), (3, .pf LanesAt (· = 0))], 9, []⟩) (fun zz : Unit => ⟨187, [(8, [], .s (.ref 6)), (7, [], .s (.ref 5)), (3, [], .s (.p 4 0))], [(8, .box 43 [.int .i64 (listA b (drawnL b (chosenL b n) bits)).1.lo, .int .i64 (listA b (drawnL b (chosenL b n) bits)).1.hi]), (7, .sl .ro 65 2 (drawnL b (chosenL b n) bits) encPlace zPlace), (6, .sl .own 3 1 (chosenL b n) encI 0), (5, .sl .own 3 1 (trulyL b bits) encI 0), (4, .box 24 [.ref 0, .int .i64 b.rule, .int .i64 b.most]), (0, .sl .ro 61 3 b.loads encLoad zLoad), (1, .sl .ro 3 1 bits encI 0), (2, .pf NobodyAt (· = 1)), (3, .pf LanesAt (· = 0))], 9, []⟩) (fun k zz => True) trivial ⟨0, rfl, Le_sel (ts := [18, 15, 14, 9, 8, 7, 3]) (ids := [8, 7, 6, 5, 4, 0, 1, 2, 3]) (nx := 9) (by kernel_rfl)⟩ ?_ ?_
  · intro k1 zz hn1 hp1 hi1 Q1 hq1 ho1
    refine WP_seq (WP_seq (WP_region (WPO_all tt_ok (by kernel_rfl) ?_)))
    refine WP_cond (decide ((k1 : Int) < ((drawnL b (chosenL b n) bits).length : Int))) (by kernel_rfl) (fun hc5 => ?_) (fun hc5 => ?_)
    rotate_left
    · refine WP_exit ?_
      show Q1 (.exit 0) _
      exact LA_exit hq1 () (loopR_end hi1 hc5) ⟨k1, hn1, hp1⟩ (Le_sel (ts := [8, 7, 3]) (ids := [8, 7, 6, 5, 4, 0, 1, 2, 3]) (nx := 9) (by kernel_rfl))
    have hc5' := of_decide_eq_true hc5
    have hk1 : k1 < (drawnL b (chosenL b n) bits).length := by omega
    refine WP_skip ?_
    refine WP_seq (WP_block ?_)
    refine WP_seq (WP_drawH [] (by kernel_rfl) (by kernel_rfl) ?_)
    refine H_run tt_ok [0, 1, 2, 4, 6, 7, 8, 9, 10] (f' := 13) (by kernel_rfl) (by kernel_rfl) (by kernel_rfl) ?_
    refine H_step 3 (by kernel_rfl) (by kernel_rfl) (fun hfz cx' hx1 hx2 => ?_)
    refine SLC tt_ok 7 (drawnL b (chosenL b n) bits).length .ro 65 2 0 (IntKind.i64.wrap ((k1 : Int) + 1)) none .ro (some 117) (by kernel_rfl) (by kernel_rfl) (by (try rw [wrapI (by omega) (by omega)]); exact ⟨by omega, by omega, by omega⟩) (.inl ⟨rfl, fun m h => by cases h⟩) ?_
    refine WPO_end (by kernel_rfl) ⟨rfl, (hfz.fnds [8, 7, 6, 5, 4, 0, 1, 2, 3] (by kernel_rfl) ⟨by kernel_rfl, by kernel_rfl, by kernel_rfl, by kernel_rfl, by kernel_rfl, by kernel_rfl, by kernel_rfl, by kernel_rfl, by kernel_rfl, trivial⟩ (by kernel_rfl)), ?_⟩
    refine H_step 5 (by kernel_rfl) (by kernel_rfl) (fun hfz cx' hx1 hx2 => ?_)
    refine CALL 33 [.s (.ref 9), .s (.ref 5)] (.s (.int .i64 (leanL (cut (drawnL b (chosenL b n) bits) 0 (IntKind.i64.wrap ((k1 : Int) + 1))) (trulyL b bits)))) [] (by kernel_rfl) (goes_of (by kernel_rfl)) (by kernel_rfl) (by kernel_rfl) (fun hG nV w h => leanL_calls (nV 9) (nV 5) (cut (drawnL b (chosenL b n) bits) 0 (IntKind.i64.wrap ((k1 : Int) + 1))) (trulyL b bits) w (h.reads (id := 9) (kd := .ro) (e := 65) (by kernel_rfl)) (h.reads (id := 5) (kd := .own) (e := 3) (by kernel_rfl)) (by first | assumption | omega | exact fun x hx => hdm x (mem_cut hx) | exact fun x hx => hdw x (mem_cut hx) | exact fun x hx => hsw x (mem_cut hx))) ?_
    refine WPO_end (by kernel_rfl) ⟨rfl, (hfz.fnds [8, 7, 6, 5, 4, 0, 1, 2, 3] (by kernel_rfl) ⟨by kernel_rfl, by kernel_rfl, by kernel_rfl, by kernel_rfl, by kernel_rfl, by kernel_rfl, by kernel_rfl, by kernel_rfl, by kernel_rfl, trivial⟩ (by kernel_rfl)), ?_⟩
    refine H_step 11 (by kernel_rfl) (by kernel_rfl) (fun hfz cx' hx1 hx2 => ?_)
    refine CALL 34 [.s (.int .i64 (leanL (cut (drawnL b (chosenL b n) bits) 0 (IntKind.i64.wrap ((k1 : Int) + 1))) (trulyL b bits))), .s (.int .i64 (IntKind.i64.wrap (0 - b.rule))), .s (.int .i64 b.rule)] (.s (.bool (insideF (leanL (cut (drawnL b (chosenL b n) bits) 0 (IntKind.i64.wrap ((k1 : Int) + 1))) (trulyL b bits)) (IntKind.i64.wrap (0 - b.rule)) b.rule))) [] (by kernel_rfl) (goes_of (by kernel_rfl)) (by kernel_rfl) (by kernel_rfl) (fun hG nV w h => insideF_calls  (leanL (cut (drawnL b (chosenL b n) bits) 0 (IntKind.i64.wrap ((k1 : Int) + 1))) (trulyL b bits)) (IntKind.i64.wrap (0 - b.rule)) b.rule w  ) ?_
    refine WPO_end (by kernel_rfl) ⟨rfl, (hfz.fnds [8, 7, 6, 5, 4, 0, 1, 2, 3] (by kernel_rfl) ⟨by kernel_rfl, by kernel_rfl, by kernel_rfl, by kernel_rfl, by kernel_rfl, by kernel_rfl, by kernel_rfl, by kernel_rfl, by kernel_rfl, trivial⟩ (by kernel_rfl)), ?_⟩
    refine H_run tt_ok [12, 13, 14, 15, 16, 17, 18, 19, 20, 21] (f' := 0) (by kernel_rfl) (by kernel_rfl) (by kernel_rfl) ?_
    refine H_done (by kernel_rfl) ?_
    refine WP_cond ((!(insideF (leanL (cut (drawnL b (chosenL b n) bits) 0 (IntKind.i64.wrap ((k1 : Int) + 1))) (trulyL b bits)) (IntKind.i64.wrap (0 - b.rule)) b.rule)) && (((tiltsA b (drawnL b (chosenL b n) bits)).2 != 0) || (decide ((tiltsA b (drawnL b (chosenL b n) bits)).1 > (k1 : Int))))) (by kernel_rfl) (fun hc7 => ?_) (fun hc7 => ?_)
    · have hc7' := hc7; try simp only [Bool.and_eq_true, Bool.or_eq_true, Bool.and_eq_false_iff, Bool.or_eq_false_iff, Bool.not_eq_true', Bool.not_eq_false', decide_eq_true_eq, decide_eq_false_iff_not, beq_iff_eq, beq_eq_false_iff_ne, bne_iff_ne, bne_eq_false_iff_eq, ne_eq] at hc7'
      refine WP_seq (WP_region (WPO_all tt_ok (by kernel_rfl) ?_))
      refine WP_ret ?_
      show Q1 .ret _
      refine LA_ret hq1 ?_
      have he8 := loopR_ret (r := false) hi1 hk1 hc5 (by unfold DeckTrueL_b1; simp only [hc7, cond_true, cond_false])
      exact ⟨.s (.bool false), by kernel_rfl, fun nV w' h => ⟨by rw [show DeckTrueL b bits n = false from by unfold DeckTrueL; simp only [hc2, hc4, he8, cond_true, cond_false]]; rfl, h.bel⟩⟩
    have hc7' := hc7; try simp only [Bool.and_eq_true, Bool.or_eq_true, Bool.and_eq_false_iff, Bool.or_eq_false_iff, Bool.not_eq_true', Bool.not_eq_false', decide_eq_true_eq, decide_eq_false_iff_not, beq_iff_eq, beq_eq_false_iff_ne, bne_iff_ne, bne_eq_false_iff_eq, ne_eq] at hc7'
    refine WP_skip ?_
    refine WP_region (WPO_all tt_ok (by kernel_rfl) ?_)
    show Q1 .normal _
    exact LA_go hq1 (ci := IntKind.i64.wrap ((k1 : Int) + 1)) () hk1 (by show _ = ((k1 + 1 : Nat) : Int); rw [wrapI (by omega) (by omega)]; omega) (loopR_go hi1 hk1 hc5 (by unfold DeckTrueL_b1; simp only [hc7, cond_true, cond_false])) trivial (Le_sel (ts := [18, 15, 14, 9, 8, 7, 3]) (ids := [8, 7, 6, 5, 4, 0, 1, 2, 3]) (nx := 9) (by kernel_rfl))
  intro zz hR1 hP1 s' hl
  refine WP_le hl ?_
  clear hl s'
  refine WP_seq (WP_region (WPO_run tt_ok 2 (by kernel_rfl) ?_))
  refine CALLR 36 [.g [.ref 0, .int .i64 b.rule, .int .i64 b.most], .s (.ref 6)] (.t [(false, [.ref 9]), (false, [.int .i64 (stowA b (chosenL b n)).2])]) 65 2 (stowA b (chosenL b n)).1 encPlace zPlace 9 (by kernel_rfl) (by kernel_rfl) (goes_of (by kernel_rfl)) (by kernel_rfl) (by kernel_rfl) (by decide) (fun _ => rfl) (fun nV w h => (stowA_calls (nV 0) (nV 6) b (chosenL b n) w (h.reads (id := 0) (kd := .ro) (e := 61) (by kernel_rfl)) (h.reads (id := 6) (kd := .own) (e := 3) (by kernel_rfl)) (h.ents (2, .pf NobodyAt (· = 1)) (fnd_mem (by kernel_rfl))).1 (h.ents (3, .pf LanesAt (· = 0)) (fnd_mem (by kernel_rfl))).1 ).mono fun e w' h1 => weak_fresh h1) ?_
  refine WPO_all tt_ok (by kernel_rfl) ?_
  refine WP_seq (WP_seq (WP_region (WPO_all tt_ok (by kernel_rfl) ?_)))
  refine WP_cond ((stowA b (chosenL b n)).2 != 0) (by kernel_rfl) (fun hc10 => ?_) (fun hc10 => ?_)
  · have hc10' := hc10; try simp only [Bool.and_eq_true, Bool.or_eq_true, Bool.and_eq_false_iff, Bool.or_eq_false_iff, Bool.not_eq_true', Bool.not_eq_false', decide_eq_true_eq, decide_eq_false_iff_not, beq_iff_eq, beq_eq_false_iff_ne, bne_iff_ne, bne_eq_false_iff_eq, ne_eq] at hc10'
    refine WP_seq (WP_region (WPO_run tt_ok 8 (by kernel_rfl) ?_))
    refine CALL 21 [] (.s (.bool stowedL)) [(((stowA b (chosenL b n)).2 == 4) && (((stowA b (chosenL b n)).1.length : Int) == 0), true)] (by kernel_rfl) (goes_of (by kernel_rfl)) (by kernel_rfl) (by kernel_rfl) (fun hG nV w h => stowedL_calls   w (h.ents (2, .pf NobodyAt (· = 1)) (fnd_mem (by kernel_rfl))).1 (h.ents (3, .pf LanesAt (· = 0)) (fnd_mem (by kernel_rfl))).1 ) ?_
    refine WPO_all tt_ok (by kernel_rfl) ?_
    refine WP_ret ?_
    exact ⟨.s (.bool ((((stowA b (chosenL b n)).2 == 4) && (((stowA b (chosenL b n)).1.length : Int) == 0)) && stowedL)), by kernel_rfl, fun nV w' h => ⟨by rw [show DeckTrueL b bits n = ((((stowA b (chosenL b n)).2 == 4) && (((stowA b (chosenL b n)).1.length : Int) == 0)) && stowedL) from by unfold DeckTrueL; simp only [hc2, hc4, hR1, hc10, cond_true, cond_false]]; rfl, h.bel⟩⟩
  have hc10' := hc10; try simp only [Bool.and_eq_true, Bool.or_eq_true, Bool.and_eq_false_iff, Bool.or_eq_false_iff, Bool.not_eq_true', Bool.not_eq_false', decide_eq_true_eq, decide_eq_false_iff_not, beq_iff_eq, beq_eq_false_iff_ne, bne_iff_ne, bne_eq_false_iff_eq, ne_eq] at hc10'
  refine WP_skip ?_
  refine WP_seq (WP_seq (WP_draw (by kernel_rfl) (by kernel_rfl) ?_))
  refine WPQ_run tt_ok 3 (by kernel_rfl) ?_
  refine QCALL 37 [.g [.ref 0, .int .i64 b.rule, .int .i64 b.most], .s (.ref 9), .s (.ref 6)] (.s (.bool (standsL b (stowA b (chosenL b n)).1 (chosenL b n)))) [] (by kernel_rfl) (goes_of (by kernel_rfl)) (by kernel_rfl) (by kernel_rfl) (fun hG nV w h => standsL_calls (nV 0) (nV 9) (nV 6) b (stowA b (chosenL b n)).1 (chosenL b n) w (h.reads (id := 0) (kd := .ro) (e := 61) (by kernel_rfl)) (h.reads (id := 9) (kd := .ro) (e := 65) (by kernel_rfl)) (h.reads (id := 6) (kd := .own) (e := 3) (by kernel_rfl)) (by first | assumption | omega | exact fun x hx => hdm x (mem_cut hx) | exact fun x hx => hdw x (mem_cut hx) | exact fun x hx => hsw x (mem_cut hx)) (by first | assumption | omega | exact fun x hx => hdm x (mem_cut hx) | exact fun x hx => hdw x (mem_cut hx) | exact fun x hx => hsw x (mem_cut hx))) ?_
  refine WPQ_run tt_ok 4 (by kernel_rfl) ?_
  refine QCALL 38 [.s (.ref 6), .s (.ref 5)] (.s (.int .i64 (carriedL (chosenL b n) (trulyL b bits)))) [(!(standsL b (stowA b (chosenL b n)).1 (chosenL b n)), false)] (by kernel_rfl) (goes_of (by kernel_rfl)) (by kernel_rfl) (by kernel_rfl) (fun hG nV w h => carriedL_calls (nV 6) (nV 5) (chosenL b n) (trulyL b bits) w (h.reads (id := 6) (kd := .own) (e := 3) (by kernel_rfl)) (h.reads (id := 5) (kd := .own) (e := 3) (by kernel_rfl)) (by first | assumption | omega | exact fun x hx => hdm x (mem_cut hx) | exact fun x hx => hdw x (mem_cut hx) | exact fun x hx => hsw x (mem_cut hx))) ?_
  refine WPQ_all tt_ok (by kernel_rfl) ?_
  refine WP_cond ((!(standsL b (stowA b (chosenL b n)).1 (chosenL b n))) || (decide ((carriedL (chosenL b n) (trulyL b bits)) > b.most))) (by kernel_rfl) (fun hc12 => ?_) (fun hc12 => ?_)
  · have hc12' := hc12; try simp only [Bool.and_eq_true, Bool.or_eq_true, Bool.and_eq_false_iff, Bool.or_eq_false_iff, Bool.not_eq_true', Bool.not_eq_false', decide_eq_true_eq, decide_eq_false_iff_not, beq_iff_eq, beq_eq_false_iff_ne, bne_iff_ne, bne_eq_false_iff_eq, ne_eq] at hc12'
    refine WP_seq (WP_region (WPO_all tt_ok (by kernel_rfl) ?_))
    refine WP_ret ?_
    exact ⟨.s (.bool false), by kernel_rfl, fun nV w' h => ⟨by rw [show DeckTrueL b bits n = false from by unfold DeckTrueL; first | (simp only [hc2, hc4, hR1, hc10, hc12, cond_true, cond_false]; done) | ((first | rw [bif_t hc2] | rw [bif_f hc2] | (rw [hc2]; dsimp only) | skip); (first | rw [bif_t hc4] | rw [bif_f hc4] | (rw [hc4]; dsimp only) | skip); (first | rw [bif_t hR1] | rw [bif_f hR1] | (rw [hR1]; dsimp only) | skip); (first | rw [bif_t hc10] | rw [bif_f hc10] | (rw [hc10]; dsimp only) | skip); (first | rw [bif_t hc12] | rw [bif_f hc12] | (rw [hc12]; dsimp only) | skip); first | done | rfl)]; rfl, h.bel⟩⟩
  have hc12' := hc12; try simp only [Bool.and_eq_true, Bool.or_eq_true, Bool.and_eq_false_iff, Bool.or_eq_false_iff, Bool.not_eq_true', Bool.not_eq_false', decide_eq_true_eq, decide_eq_false_iff_not, beq_iff_eq, beq_eq_false_iff_ne, bne_iff_ne, bne_eq_false_iff_eq, ne_eq] at hc12'
  refine WP_skip ?_
  have hst0 : standsL b (stowA b (chosenL b n)).1 (chosenL b n) = true := by have h9 := (by assumption : ((!(standsL b (stowA b (chosenL b n)).1 (chosenL b n))) || _) = false); simpa using (Bool.or_eq_false_iff.1 h9).1
  have hst := stands_mem hb5 hst0
  have hsw : ∀ x ∈ (stowA b (chosenL b n)).1, 0 ≤ x.load ∧ x.load < ((trulyL b bits).length : Int) := fun x hx => by rw [htl]; exact hst x hx
  refine WP_seq (WP_seq (WP_region (WPO_all tt_ok (by kernel_rfl) ?_)))
  refine WP_fact (p := ((stowA b (chosenL b n)).1.length : Int) ≤ 9223372036854775807) (fun nV aV wV hs => Reads.len (sz := 2) (enc := encPlace) (z := zPlace) (hs.heap.reads (id := 9) (kd := .ro) (e := 65) (by kernel_rfl))) (fun hN2 => ?_)
  refine WP_loopA (ρ := Bool) (DeckTrueL_c2 b bits n) (DeckTrueL_b2 b bits n) (stowA b (chosenL b n)).1.length () (fun k : Nat => (k : Int)) (fun (ci : Int) (zz : Unit) => ⟨187, [(21, [], .s (.int .i64 ci)), (19, [], .s (.ref 9)), (7, [], .s (.ref 5)), (3, [], .s (.p 4 0))], [(9, .sl .ro 65 2 (stowA b (chosenL b n)).1 encPlace zPlace), (8, .box 43 [.int .i64 (listA b (drawnL b (chosenL b n) bits)).1.lo, .int .i64 (listA b (drawnL b (chosenL b n) bits)).1.hi]), (7, .sl .ro 65 2 (drawnL b (chosenL b n) bits) encPlace zPlace), (6, .sl .own 3 1 (chosenL b n) encI 0), (5, .sl .own 3 1 (trulyL b bits) encI 0), (4, .box 24 [.ref 0, .int .i64 b.rule, .int .i64 b.most]), (0, .sl .ro 61 3 b.loads encLoad zLoad), (1, .sl .ro 3 1 bits encI 0), (2, .pf NobodyAt (· = 1)), (3, .pf LanesAt (· = 0))], 10, []⟩) (fun zz : Unit => ⟨187, [], [(9, .sl .ro 65 2 (stowA b (chosenL b n)).1 encPlace zPlace), (8, .box 43 [.int .i64 (listA b (drawnL b (chosenL b n) bits)).1.lo, .int .i64 (listA b (drawnL b (chosenL b n) bits)).1.hi]), (7, .sl .ro 65 2 (drawnL b (chosenL b n) bits) encPlace zPlace), (6, .sl .own 3 1 (chosenL b n) encI 0), (5, .sl .own 3 1 (trulyL b bits) encI 0), (4, .box 24 [.ref 0, .int .i64 b.rule, .int .i64 b.most]), (0, .sl .ro 61 3 b.loads encLoad zLoad), (1, .sl .ro 3 1 bits encI 0), (2, .pf NobodyAt (· = 1)), (3, .pf LanesAt (· = 0))], 10, []⟩) (fun k zz => True) trivial ⟨0, rfl, Le_sel (ts := [21, 19, 7, 3]) (ids := [9, 8, 7, 6, 5, 4, 0, 1, 2, 3]) (nx := 10) (by kernel_rfl)⟩ ?_ ?_
  · intro k2 zz hn2 hp2 hi2 Q2 hq2 ho2
    refine WP_seq (WP_seq (WP_region (WPO_all tt_ok (by kernel_rfl) ?_)))
    refine WP_cond (decide ((k2 : Int) < ((stowA b (chosenL b n)).1.length : Int))) (by kernel_rfl) (fun hc13 => ?_) (fun hc13 => ?_)
    rotate_left
    · refine WP_exit ?_
      show Q2 (.exit 2) _
      exact LA_exit hq2 () (loopR_end hi2 hc13) ⟨k2, hn2, hp2⟩ (Le_sel (ts := []) (ids := [9, 8, 7, 6, 5, 4, 0, 1, 2, 3]) (nx := 10) (by kernel_rfl))
    have hc13' := of_decide_eq_true hc13
    have hk2 : k2 < (stowA b (chosenL b n)).1.length := by omega
    refine WP_skip ?_
    refine WP_seq (WP_block ?_)
    refine WP_seq (WP_drawH [] (by kernel_rfl) (by kernel_rfl) ?_)
    refine H_run tt_ok [0, 1, 2, 4, 6, 7, 8, 9, 10] (f' := 4) (by kernel_rfl) (by kernel_rfl) (by kernel_rfl) ?_
    refine H_step 3 (by kernel_rfl) (by kernel_rfl) (fun hfz cx' hx1 hx2 => ?_)
    refine SLC tt_ok 9 (stowA b (chosenL b n)).1.length .ro 65 2 0 (IntKind.i64.wrap ((k2 : Int) + 1)) none .ro (some 176) (by kernel_rfl) (by kernel_rfl) (by (try rw [wrapI (by omega) (by omega)]); exact ⟨by omega, by omega, by omega⟩) (.inl ⟨rfl, fun m h => by cases h⟩) ?_
    refine WPO_end (by kernel_rfl) ⟨rfl, (hfz.fnds [9, 8, 7, 6, 5, 4, 0, 1, 2, 3] (by kernel_rfl) ⟨by kernel_rfl, by kernel_rfl, by kernel_rfl, by kernel_rfl, by kernel_rfl, by kernel_rfl, by kernel_rfl, by kernel_rfl, by kernel_rfl, by kernel_rfl, trivial⟩ (by kernel_rfl)), ?_⟩
    refine H_step 5 (by kernel_rfl) (by kernel_rfl) (fun hfz cx' hx1 hx2 => ?_)
    refine CALL 33 [.s (.ref 10), .s (.ref 5)] (.s (.int .i64 (leanL (cut (stowA b (chosenL b n)).1 0 (IntKind.i64.wrap ((k2 : Int) + 1))) (trulyL b bits)))) [] (by kernel_rfl) (goes_of (by kernel_rfl)) (by kernel_rfl) (by kernel_rfl) (fun hG nV w h => leanL_calls (nV 10) (nV 5) (cut (stowA b (chosenL b n)).1 0 (IntKind.i64.wrap ((k2 : Int) + 1))) (trulyL b bits) w (h.reads (id := 10) (kd := .ro) (e := 65) (by kernel_rfl)) (h.reads (id := 5) (kd := .own) (e := 3) (by kernel_rfl)) (by first | assumption | omega | exact fun x hx => hdm x (mem_cut hx) | exact fun x hx => hdw x (mem_cut hx) | exact fun x hx => hsw x (mem_cut hx))) ?_
    refine WPO_end (by kernel_rfl) ⟨rfl, (hfz.fnds [9, 8, 7, 6, 5, 4, 0, 1, 2, 3] (by kernel_rfl) ⟨by kernel_rfl, by kernel_rfl, by kernel_rfl, by kernel_rfl, by kernel_rfl, by kernel_rfl, by kernel_rfl, by kernel_rfl, by kernel_rfl, by kernel_rfl, trivial⟩ (by kernel_rfl)), ?_⟩
    refine H_step 11 (by kernel_rfl) (by kernel_rfl) (fun hfz cx' hx1 hx2 => ?_)
    refine CALL 34 [.s (.int .i64 (leanL (cut (stowA b (chosenL b n)).1 0 (IntKind.i64.wrap ((k2 : Int) + 1))) (trulyL b bits))), .s (.int .i64 (IntKind.i64.wrap (0 - b.rule))), .s (.int .i64 b.rule)] (.s (.bool (insideF (leanL (cut (stowA b (chosenL b n)).1 0 (IntKind.i64.wrap ((k2 : Int) + 1))) (trulyL b bits)) (IntKind.i64.wrap (0 - b.rule)) b.rule))) [] (by kernel_rfl) (goes_of (by kernel_rfl)) (by kernel_rfl) (by kernel_rfl) (fun hG nV w h => insideF_calls  (leanL (cut (stowA b (chosenL b n)).1 0 (IntKind.i64.wrap ((k2 : Int) + 1))) (trulyL b bits)) (IntKind.i64.wrap (0 - b.rule)) b.rule w  ) ?_
    refine WPO_end (by kernel_rfl) ⟨rfl, (hfz.fnds [9, 8, 7, 6, 5, 4, 0, 1, 2, 3] (by kernel_rfl) ⟨by kernel_rfl, by kernel_rfl, by kernel_rfl, by kernel_rfl, by kernel_rfl, by kernel_rfl, by kernel_rfl, by kernel_rfl, by kernel_rfl, by kernel_rfl, trivial⟩ (by kernel_rfl)), ?_⟩
    refine H_run tt_ok [12] (f' := 0) (by kernel_rfl) (by kernel_rfl) (by kernel_rfl) ?_
    refine H_done (by kernel_rfl) ?_
    refine WP_cond (!(insideF (leanL (cut (stowA b (chosenL b n)).1 0 (IntKind.i64.wrap ((k2 : Int) + 1))) (trulyL b bits)) (IntKind.i64.wrap (0 - b.rule)) b.rule)) (by kernel_rfl) (fun hc15 => ?_) (fun hc15 => ?_)
    · have hc15' := hc15; try simp only [Bool.and_eq_true, Bool.or_eq_true, Bool.and_eq_false_iff, Bool.or_eq_false_iff, Bool.not_eq_true', Bool.not_eq_false', decide_eq_true_eq, decide_eq_false_iff_not, beq_iff_eq, beq_eq_false_iff_ne, bne_iff_ne, bne_eq_false_iff_eq, ne_eq] at hc15'
      refine WP_seq (WP_region (WPO_all tt_ok (by kernel_rfl) ?_))
      refine WP_ret ?_
      show Q2 .ret _
      refine LA_ret hq2 ?_
      have he16 := loopR_ret (r := false) hi2 hk2 hc13 (by unfold DeckTrueL_b2; simp only [hc15, cond_true, cond_false])
      exact ⟨.s (.bool false), by kernel_rfl, fun nV w' h => ⟨by rw [show DeckTrueL b bits n = false from by unfold DeckTrueL; simp only [hc2, hc4, hR1, hc10, hc12, he16, cond_true, cond_false]]; rfl, h.bel⟩⟩
    have hc15' := hc15; try simp only [Bool.and_eq_true, Bool.or_eq_true, Bool.and_eq_false_iff, Bool.or_eq_false_iff, Bool.not_eq_true', Bool.not_eq_false', decide_eq_true_eq, decide_eq_false_iff_not, beq_iff_eq, beq_eq_false_iff_ne, bne_iff_ne, bne_eq_false_iff_eq, ne_eq] at hc15'
    refine WP_skip ?_
    refine WP_region (WPO_all tt_ok (by kernel_rfl) ?_)
    show Q2 .normal _
    exact LA_go hq2 (ci := IntKind.i64.wrap ((k2 : Int) + 1)) () hk2 (by show _ = ((k2 + 1 : Nat) : Int); rw [wrapI (by omega) (by omega)]; omega) (loopR_go hi2 hk2 hc13 (by unfold DeckTrueL_b2; simp only [hc15, cond_true, cond_false])) trivial (Le_sel (ts := [21, 19, 7, 3]) (ids := [9, 8, 7, 6, 5, 4, 0, 1, 2, 3]) (nx := 10) (by kernel_rfl))
  intro zz hR2 hP2 s' hl
  refine WP_le hl ?_
  clear hl s'
  refine WP_seq (WP_region (CALL 21 [] (.s (.bool stowedL)) [] (by kernel_rfl) (goes_of (by kernel_rfl)) (by kernel_rfl) (by kernel_rfl) (fun hG nV w h => stowedL_calls   w (h.ents (2, .pf NobodyAt (· = 1)) (fnd_mem (by kernel_rfl))).1 (h.ents (3, .pf LanesAt (· = 0)) (fnd_mem (by kernel_rfl))).1 ) ?_))
  refine WPO_all tt_ok (by kernel_rfl) ?_
  refine WP_ret ?_
  exact ⟨.s (.bool stowedL), by kernel_rfl, fun nV w' h => ⟨by rw [show DeckTrueL b bits n = stowedL from by unfold DeckTrueL; first | (simp only [hc2, hc4, hR1, hc10, hc12, hR2, cond_true, cond_false]; done) | ((first | rw [bif_t hc2] | rw [bif_f hc2] | (rw [hc2]; dsimp only) | skip); (first | rw [bif_t hc4] | rw [bif_f hc4] | (rw [hc4]; dsimp only) | skip); (first | rw [bif_t hR1] | rw [bif_f hR1] | (rw [hR1]; dsimp only) | skip); (first | rw [bif_t hc10] | rw [bif_f hc10] | (rw [hc10]; dsimp only) | skip); (first | rw [bif_t hc12] | rw [bif_f hc12] | (rw [hc12]; dsimp only) | skip); (first | rw [bif_t hR2] | rw [bif_f hR2] | (rw [hR2]; dsimp only) | skip); first | done | rfl)]; rfl, h.bel⟩⟩
end Go.Proofs.YthfnedbpmdkdjaaDoor.D
namespace Go.Proofs.YthfnedbpmdkdjaaDoor.D
open Go Go.RowKit Go.Proofs.YthfnedbpmdkdjaaDoor.Eng Go.Proofs.YthfnedbpmdkdjaaDoor.Cm
set_option linter.unusedVariables false
set_option linter.unusedSimpArgs false
set_option linter.unusedSectionVars false
theorem carried_le {b : DBook} (hv : ValidD b) {s : Nat} (hs : s < 2 ^ b.loads.length) {u : List Int} (hu : TrueW b u) : carriedL (M b.loads.length s) u ≤ weightD b (s : Int) := by
  rw [← carried_weight (u := (List.range b.loads.length).map fun k => (b.loads.getD k zLoad).w.hi) rfl, carried_eq, carried_eq]
  have hl5 : (M b.loads.length s).length ≤ 5 := Nat.le_trans (members_len _ _) hv.n.2
  have hg : ∀ k, k < b.loads.length → ((List.range b.loads.length).map fun k => (b.loads.getD k zLoad).w.hi).getD k 0 = (b.loads.getD k zLoad).w.hi := fun k hk => by
    rw [List.getD_eq_getElem?_getD, List.getElem?_map, List.getElem?_range hk]; rfl
  have hr := (M_climb b.loads.length s).rng
  have : ∀ (l : List Int) (v w : Int) (m : Nat), (∀ x ∈ l, 0 ≤ x ∧ x < b.loads.length) → l.length + m ≤ 5 → 0 ≤ v → v ≤ w → w ≤ 60 * m → l.foldl (fun a x => IntKind.i64.wrap (a + u.getD x.toNat 0)) v ≤ l.foldl (fun a x => IntKind.i64.wrap (a + ((List.range b.loads.length).map fun k => (b.loads.getD k zLoad).w.hi).getD x.toNat 0)) w := by
    intro l
    induction l with
    | nil => intro v w m _ _ _ h _; exact h
    | cons x l ih =>
      intro v w m hx hl h0 h1 h2
      have hx1 := hx x List.mem_cons_self
      have hw := (hv.load (k := x.toNat) (by omega)).1
      have hut := hu x.toNat (by omega)
      simp only [List.length_cons] at hl
      rw [List.foldl_cons, List.foldl_cons, hg _ (by omega), wrapI (by omega) (by omega), wrapI (by omega) (by omega)]
      exact ih _ _ (m + 1) (fun y hy => hx y (List.mem_cons_of_mem _ hy)) (by omega) (by omega) (by omega) (by omega)
  exact this _ 0 0 0 hr (by omega) (by omega) (by omega) (by omega)
theorem inside_iff {n lo hi : Int} : insideF n lo hi = true ↔ lo ≤ n ∧ n ≤ hi := by
  simp only [insideF, Bool.and_eq_true, decide_eq_true_eq, ge_iff_le]
theorem DeckTrue_true (b : DBook) (bits : List Int) (n : Int) : DeckTrueL b bits n = true := by
  unfold DeckTrueL
  rw [stowedL_true]
  cases hs : soundL b with
  | false => rfl
  | true =>
    have hv := sound_iff.1 hs
    obtain ⟨s, hs1, hs2⟩ := chosen_M hv n
    obtain ⟨hok, hset⟩ := drawn_ok hv hs1 bits
    have hlen := drawn_len5 hv s bits
    have hu := truly_true hv bits
    simp only [hs2]
    generalize hon : drawnL b (M b.loads.length s) bits = on at *
    generalize hweq : trulyL b bits = u at *
    have hL := acc_true hv hok.1 hlen hu
    have hB := acc_bounds hv hok.1 hlen
    have hrw := rule_wrap hv
    have hlean : ∀ k, k ≤ on.length → leanL (on.take k) u = (on.take k).foldl (leanF u) 0 := fun k hk => lean_eq _ _
    have hlo : leanL on u = (on.take on.length).foldl (leanF u) 0 := by rw [lean_eq, List.take_length]
    have ht2 := tilts_two hv hok
    -- the first lines
    have hfirst : ((((((((listA b on).2 != 0) || ((levelA b on).2 != 0)) || (((tiltsA b on).2 != 0) && (((tiltsA b on).2 != 4) || ((tiltsA b on).1 != 0)))) || (!(containsF (listA b on).1 (leanL on u)))) || (!(insideF (levelA b on).1 0 2))) || (((levelA b on).1 == 2) && (!(insideF (leanL on u) (IntKind.i64.wrap (0 - b.rule)) b.rule)))) || (((levelA b on).1 == 0) && (insideF (leanL on u) (IntKind.i64.wrap (0 - b.rule)) b.rule))) = false := by
      have ht : (((tiltsA b on).2 != 0) && (((tiltsA b on).2 != 4) || ((tiltsA b on).1 != 0))) = false := by
        rw [tiltsA_eq hv hok]
        cases tiltQ b on <;> rfl
      rw [ht, listA_eq hv hok, levelA_eq hv hok, last_acc, hrw, hlo]
      have h1 := hL on.length (Nat.le_refl _)
      have h2 := hB on.length (Nat.le_refl _)
      have hc : containsF (accD b on on.length) ((on.take on.length).foldl (leanF u) 0) = true := inside_iff.2 h1
      rw [hc]
      rcases level_cases hv (l := accD b on on.length) h2.2.1 with ⟨e, h3⟩ | ⟨e, h3⟩ | ⟨e, h3⟩
      · rw [e]
        have : insideF ((on.take on.length).foldl (leanF u) 0) (-b.rule) b.rule = true := inside_iff.2 (by omega)
        rw [this]; rfl
      · rw [e]; rfl
      · rw [e]
        have : insideF ((on.take on.length).foldl (leanF u) 0) (-b.rule) b.rule = false := by
          rw [Bool.eq_false_iff]; intro h; have := inside_iff.1 h; omega
        rw [this]; rfl
    rw [hfirst]
    simp only [Bool.not_true, cond_false]
    -- behind each place
    have hl1 : loopR (DeckTrueL_c1 b bits n) (DeckTrueL_b1 b bits n) on.length 0 () = .brk () := by
      rw [loopR_some (c := DeckTrueL_c1 b bits n) (b := DeckTrueL_b1 b bits n) (fun _ => none) (fun k hk => by simp only [DeckTrueL_c1, hs2, hon]; rw [decide_eq_true]; omega) (fun k hk => by
        simp only [DeckTrueL_b1, hs2, hon, hweq]
        rw [wrapI (by omega) (by omega), show ((k : Int) + 1) = ((k + 1 : Nat) : Int) by omega, cut_take, hlean _ (by omega), hrw]
        have h1 := hL (k + 1) (by omega)
        have h2 := hB (k + 1) (by omega)
        cases hin : insideF ((on.take (k + 1)).foldl (leanF u) 0) (-b.rule) b.rule with
        | true => rfl
        | false =>
          have hbad : decide (levelD b (accD b on (k + 1)) < 2) = true := by
            rcases level_cases hv (l := accD b on (k + 1)) h2.2.1 with ⟨e, h3⟩ | ⟨e, h3⟩ | ⟨e, h3⟩
            · rw [inside_iff.2 (show -b.rule ≤ _ ∧ _ ≤ b.rule by omega)] at hin; cases hin
            · rw [e]; rfl
            · rw [e]; rfl
          rw [tiltsA_eq hv hok]
          cases htq : tiltQ b on with
          | none => rw [tilt_no htq k hk] at hbad; cases hbad
          | some y =>
            obtain ⟨i, hi, hy, _, hmin⟩ := tilt_first htq
            have : i ≤ k := by
              rcases Nat.lt_or_ge k i with h | h
              · rw [hmin k h] at hbad; cases hbad
              · exact h
            simp only [hy]
            rw [decide_eq_false (show ¬ ((i : Int) > (k : Int)) by omega)]
            rfl)]
      have : (List.range on.length).findSome? (fun _ => (none : Option Bool)) = none := List.findSome?_eq_none_iff.2 fun _ _ => rfl
      rw [this]
    rw [hl1]
    simp only
    rcases stowA_cases hv hs1 with ⟨xs, e, hw, hway, _⟩ | ⟨e, _⟩
    · have hst := stands_of hv.n.2 hs1 hway.1 hway.2.2
      have hca := carried_le hv hs1 hu
      have hxl := set_len hv hway.2.2
      rw [e, hst, decide_eq_false (show ¬ carriedL (M b.loads.length s) u > b.most by omega)]
      have hX := acc_true hv hway.1 hxl hu
      have hXB := acc_bounds hv hway.1 hxl
      have hl2 : loopR (DeckTrueL_c2 b bits n) (DeckTrueL_b2 b bits n) xs.length 0 () = .brk () := by
        rw [loopR_some (c := DeckTrueL_c2 b bits n) (b := DeckTrueL_b2 b bits n) (fun _ => none) (fun k hk => by simp only [DeckTrueL_c2, hs2, e]; rw [decide_eq_true]; omega) (fun k hk => by
          simp only [DeckTrueL_b2, hs2, e, hweq]
          rw [wrapI (by omega) (by omega), show ((k : Int) + 1) = ((k + 1 : Nat) : Int) by omega, cut_take, lean_eq, hrw]
          have h1 := hX (k + 1) (by omega)
          have h2 := hXB (k + 1) (by omega)
          have h3 : decide (levelD b (accD b xs (k + 1)) < 2) = false := (sure_take xs zSpan).1 hway.2.1 k hk
          have hin : insideF ((xs.take (k + 1)).foldl (leanF u) 0) (-b.rule) b.rule = true := by
            rcases level_cases hv (l := accD b xs (k + 1)) h2.2.1 with ⟨e, h4⟩ | ⟨e, h4⟩ | ⟨e, h4⟩
            · exact inside_iff.2 (by omega)
            · rw [e] at h3; cases h3
            · rw [e] at h3; cases h3
          rw [hin]; rfl)]
        have : (List.range xs.length).findSome? (fun _ => (none : Option Bool)) = none := List.findSome?_eq_none_iff.2 fun _ _ => rfl
        rw [this]
      simp only [hl2]
      rfl
    · rw [e]; rfl
end Go.Proofs.YthfnedbpmdkdjaaDoor.D
namespace Go.Proofs.YthfnedbpmdkdjaaDoor.D
open Go Go.ChangeShapes Go.WideShapes Go.RowKit Go.Proofs.YthfnedbpmdkdjaaDoor.Eng Go.Proofs.YthfnedbpmdkdjaaDoor.Cm
set_option linter.unusedVariables false
set_option linter.unusedSimpArgs false
set_option maxRecDepth 100000
namespace DeckTrue
theorem door_met_deckTrue (os : Os) (args : Array Value) : laidMetH Tryd.prog Rows.deckTrueRow.laid ((World.doorLaid Tryd.prog 30 os).forCall (fun _ _ => 0) ⟨#[], args, []⟩).memory :=
  laidMetH_of_parts3 (fuel := 8) (laidMet_of_run' 8 (by kernel_rfl) (by kernel_rfl)) (by kernel_rfl) (by kernel_rfl)
theorem contract (H : Type) (enc : TypeId × Value → H) (W : World) (base : Nat) (args : Array Value) (ds gs : List (DataW H)) (before : List MemPlace)
    (hval : ∀ (j : Nat) t v, Tryd.f6.params[j]? = some t → args[j]? = some v → Value.okWide Tryd.prog W .any base t v)
    (hW : DataW.Whole enc Tryd.prog Tryd.f6.params.toList Rows.deckTrueSpec.vars false W args.toList ds gs before)
    (hsz0 : (DataW.weightsEach Tryd.prog (Tryd.f6.params.toList ++ []) (ds ++ gs)).all (fun x => decide (x ≤ reachBytes)) = true) (hL : laidMetH Tryd.prog Rows.deckTrueRow.laid W) (hS : W.ShapedOpen Tryd.prog) :
    Calls Tryd.prog 6 args W fun e W' => ∃ v, e = .returned v ∧ Rows.deckTrueSpec.post enc Tryd.prog Tryd.f6 false true false false W args v W' := by
  have hW' := hW
  obtain ⟨p, q, hA0, hV, rfl, hfz, hnd⟩ := hW
  have hA : DataW.TrodAll enc Tryd.prog W 0 (fun _ => true) true Tryd.f6.params.toList args.toList ds p := hA0
  rw [Tryd.params6] at hA hval hsz0
  clear hA0
  obtain ⟨v0, vs0, d0, ds0, p0, q0, hargs, rfl, rfl, h0, r0⟩ := trodAll_cons hA
  obtain ⟨v1, vs1, d1, ds1, p1, q1, rfl, rfl, rfl, h1, r1⟩ := trodAll_cons r0
  obtain ⟨v2, vs2, d2, ds2, p2, q2, rfl, rfl, rfl, h2, r2⟩ := trodAll_cons r1
  obtain ⟨rfl, rfl, rfl⟩ := trodAll_nil r2
  obtain rfl : args = #[v0, v1, v2] := by apply Array.ext'; rw [hargs]
  obtain ⟨rfl, rfl⟩ := trodVars_none hV
  have hsz : (DataW.weightsEach Tryd.prog [24, 33, 3] [d0, d1, d2]).all (fun x => decide (x ≤ reachBytes)) = true := by simpa using hsz0
  have hb0 : Wb Tryd.prog 24 d0 := Bd_each hsz (j := 0) rfl rfl
  obtain ⟨c0, rfl, ⟨g0_0, x0, y0, q0_0, q0_1, q0_2, _⟩⟩ := arg_agg Tryd.underlying24 (hval 0 24 v0 rfl rfl) h0 hb0 opn24
  rw [agg_of y0] at *
  have hb1 : Wb Tryd.prog 33 d1 := Bd_each hsz (j := 1) rfl rfl
  obtain ⟨x1, q1_0⟩ := arg_slice (φ := fun v => ∃ b : List Int, (Reads W v 1 b encI 0 ∧ (∀ a ∈ b, i64B a) ∧ b.length * 8 ≤ reachBytes)) Tryd.underlying33 (hval 1 33 v1 rfl rfl) h1 hb1 (opn33.mono fun cs ⟨g, b, h1, h2, _⟩ => ⟨g, h1, b, h2⟩)
  obtain ⟨x2, rfl, q2_0⟩ := arg_int Tryd.underlying3 (hval 2 3 v2 rfl rfl) h2
  have ha := deck_of hS hL
  have hc := DeckTrueL_calls g0_0 v1 x0 x1 x2 W q0_0.1 q1_0.1 ha.1 ha.2
  refine hc.mono fun e W' ⟨he, hb⟩ => ?_
  refine ⟨.bool true, he.trans (by rw [DeckTrue_true x0 x1 x2]), law_post laidOut (fun u hu => ?_) hW' rfl (by kernel_rfl) Tryd.underlying4 rfl rfl rfl hb⟩
  have hall : ([24, 33, 3] : List TypeId).all (fun u => Tryd.prog.readableRec u && decide (u < Tryd.prog.types.size)) = true := by kernel_rfl
  have hu' : u ∈ ([24, 33, 3] : List TypeId) := hu
  have := List.all_eq_true.1 hall u hu'
  simp only [Bool.and_eq_true, decide_eq_true_eq] at this
  exact this
theorem reads (os : Os) {H : Type} (enc : TypeId × Value → H) : ∃ places, DataW.whole enc Tryd.prog ((World.doorLaid Tryd.prog 30 os).forCall (fun _ _ => 0) ⟨#[], #[.agg #[.slice none 0 0, .int .i64 0, .int .i64 0], .slice none 0 0, .int .i64 0], []⟩).memory Tryd.f6.params.toList Rows.deckTrueSpec.vars false (#[.agg #[.slice none 0 0, .int .i64 0, .int .i64 0], .slice none 0 0, .int .i64 0] : Array Value).toList 8 = some ([.agg [.nil, .lit (.int .i64 0), .lit (.int .i64 0)], .nil, .lit (.int .i64 0)], [], places) :=
  ⟨[], by kernel_rfl⟩
set_option maxRecDepth 100000 in
theorem lifted (os : Os) (started : os.Started) (H : Type) (enc : TypeId × Value → H) (F : Stop.Interp) :
    ReturnsInHanded {} Tryd.checked os 6 .any ((OpenSpec.ofChange Rows.deckTrueSpec).preRow enc Tryd.prog Tryd.f6 Rows.deckTrueRow.domain false Rows.deckTrueRow.laid) (((OpenSpec.ofChange Rows.deckTrueSpec).at F).post enc Tryd.prog Tryd.f6 false true false false) := by
  obtain ⟨places, hx⟩ := reads os enc
  refine returnsInHanded_of_row (C := Tryd.checked) (s := OpenSpec.ofChange Rows.deckTrueSpec) own started (by kernel_rfl) Tryd.func6
    (witness_row_atRef (enc := enc) (C := Tryd.checked) false (World.doorLaid Tryd.prog 30 os) #[.agg #[.slice none 0 0, .int .i64 0, .int .i64 0], .slice none 0 0, .int .i64 0] rfl (by kernel_rfl) (by kernel_rfl) (by kernel_rfl)
      (OpenSpec.preRow_of_cond 8 hx (by kernel_rfl) (fun k hk => by cases hk) (by kernel_rfl) (door_met_deckTrue os _))) ?_
  intro W base args ds gs before hval hW _ hcond hsz hL hS _
  exact contract H enc W base args ds gs before hval hW hsz hL hS
theorem said : Rows.DeckTrueSaid :=
  OpenClaim.holds_of_cond 6 Tryd.f6 rfl rfl rfl rfl rfl rfl rfl ⟨rfl, rfl, rfl, rfl, rfl⟩ rfl rfl rfl rfl rfl (by kernel_rfl) Tryd.func6 (by kernel_rfl)
    (of_decide_eq_true (by kernel_rfl)) (by unfold Func.isWrapper; first | (rw [if_pos (by decide +kernel)]; kernel_rfl) | (rw [if_neg (by decide +kernel)]; exact ⟨rfl, rfl⟩))
    (fun os started H enc _ F => by rw [OpenClaim.pre_eq_preRow]; exact lifted os started H enc F)
theorem plain (f : FuncId) (fn : Func) (hf : Tryd.pinned.checked.prog.funcNamed "prow/prowlaw03.DeckTrue" = some f) (hfn : Tryd.pinned.checked.prog.funcs[f]? = some fn) :
    false = Tryd.pinned.checked.prog.looks [] ∧ ∀ (j : Nat) t, fn.params[j]? = some t → Tryd.pinned.checked.prog.wantsStandIn t = false := by
  obtain rfl : f = 6 := Option.some.inj ((show Tryd.prog.funcNamed "prow/prowlaw03.DeckTrue" = some 6 by kernel_rfl).symm.trans hf) |>.symm
  obtain rfl : fn = Tryd.f6 := (Option.some.inj (Tryd.func6.symm.trans hfn)).symm
  refine ⟨by kernel_rfl, fun j t ht => ?_⟩
  rw [Tryd.params6] at ht
  have hm : t ∈ ([24, 33, 3] : List TypeId) := by simpa using Array.mem_of_getElem? ht
  have hall : (([24, 33, 3] : List TypeId).all fun u => !Tryd.prog.wantsStandIn u) = true := by kernel_rfl
  exact (show Tryd.prog.wantsStandIn t = false by simpa using List.all_eq_true.1 hall t hm)
theorem card : Rows.DeckTrueCardSaid :=
  Claim7.holds_tied_plain_at .later [] _ _ _ _ said (fun _ h => by cases h) (by kernel_rfl) (fun _ h => by cases h) deckTrue_row_tie rfl ⟨rfl, rfl⟩ (by kernel_rfl) rfl plain (by kernel_rfl)
end DeckTrue
end Go.Proofs.YthfnedbpmdkdjaaDoor.D
theorem Go.Proofs.YthfnedbpmdkdjaaDoor.deckTrue_holds : Go.Proofs.YthfnedbpmdkdjaaDoor.Rows.DeckTrueCardSaid := Go.Proofs.YthfnedbpmdkdjaaDoor.D.DeckTrue.card
