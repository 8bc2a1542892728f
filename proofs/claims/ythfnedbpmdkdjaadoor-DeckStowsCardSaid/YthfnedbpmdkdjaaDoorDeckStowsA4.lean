/-
  DeckStows: for every book and every list of loads the law returns true, and leaves them as they were. Conditions: none but the row's own.
-/
import Derived.Test.YthfnedbpmdkdjaaDoorDeckStowsA3
import Derived.ArgAppend
import Derived.Below
import Derived.Carry
import Derived.ChangeKeysEq
import Derived.ControlIn
import Derived.Deep.DeepHandedRow
import Derived.Deep.DeepWitnessRowRef
import Derived.Deep.Draws
import Derived.Deep.Quiet
import Derived.Deep.Slices
import Derived.KernelRfl
import Derived.LaidMore
import Derived.Laws.AppendOwn
import Derived.Laws.Cells
import Derived.Laws.CopyRow
import Derived.Laws.IdiomCopy
import Derived.Laws.IdiomRangeMap
import Derived.Laws.OwnMore
import Derived.Laws.Rows
import Derived.MapKept
import Derived.Maps.AppendAt
import Derived.OpenShut
import Derived.OrdersHeld
import Derived.OrdersIn
import Derived.ProofKit
import Derived.RangeFuncLeaves
import Derived.RangeFuncNested
import Derived.RangeFuncOwn
import Derived.SevenTiedAt
import Derived.SizedLaws
import Derived.Stop.Joined
import Derived.Test.YthfnedbpmdkdjaaDoorCards
import Derived.Test.YthfnedbpmdkdjaaDoorProg
import Derived.Test.YthfnedbpmdkdjaaDoorRows
import Derived.Test.YthfnedbpmdkdjaaDoorTie
import Derived.WalkKit
import Derived.WideKeyRuns
namespace Go.Proofs.YthfnedbpmdkdjaaDoor.D
open Go Go.RowKit Go.Proofs.YthfnedbpmdkdjaaDoor.Eng Go.Proofs.YthfnedbpmdkdjaaDoor.Cm
set_option linter.unusedVariables false
set_option linter.unusedSimpArgs false
set_option linter.unusedSectionVars false
def heavyR_c1 (b : DBook) (set : Int) (k1 : Nat) : Int → Bool := fun v1_1 => decide ((k1 : Int) < (b.loads.length : Int))
def heavyR_b1 (b : DBook) (set : Int) (k1 : Nat) : Int → Bd Int Bool := fun v1_1 => .go (bif (memberF set (k1 : Int)) then IntKind.i64.wrap (v1_1 + (b.loads.getD k1 zLoad).w.hi) else v1_1)
def heavyR (b : DBook) (set : Int) : Bool :=
  (match loopR (heavyR_c1 b set) (heavyR_b1 b set) b.loads.length 0 0 with | .brk u1_0 => decide (u1_0 > b.most) | .ret r => r)
theorem heavyR_calls (g0 : Value) (b : DBook) (set : Int) (w : World) (r0 : Reads w g0 3 b.loads encLoad zLoad)  : Calls Tryd.prog 111 #[.agg #[g0, iv b.rule, iv b.most], iv set] w fun e w' => e = .returned (.bool (heavyR b set)) ∧ Below w.heap.size w w' := by
  refine calls_of_WP (cx := cx0 w (vn [g0]) 1) (n := vn [g0]) (vs := [.g [.ref 0, .int .i64 b.rule, .int .i64 b.most], .s (.int .i64 set)]) (hp := [(0, .sl .ro 61 3 b.loads encLoad zLoad)]) (nx := 1) tt_ok Tryd.func111 rfl rfl rfl (by kernel_rfl) (HSat_args (vn_one (by simp [r0.one])) (Nat.le_refl _) ⟨⟨⟨fun _ => rfl, by decide, r0⟩, (Nat.le_of_ble_eq_true rfl)⟩, trivial⟩) (vsOk (by kernel_rfl)) ?_
  have hl0 := Reads.len r0
  refine WP_seq (WP_region (WPO_all tt_ok (by kernel_rfl) ?_))
  refine WP_seq (WP_region (WPO_all tt_ok (by kernel_rfl) ?_))
  refine WP_seq (WP_seq (WP_region (WPO_all tt_ok (by kernel_rfl) ?_)))
  refine WP_loopA (ρ := Bool) (heavyR_c1 b set) (heavyR_b1 b set) b.loads.length 0 (fun k : Nat => (k : Int)) (fun (ci : Int) (zz : Int) => ⟨30, [(6, [], .s (.int .i64 ci)), (5, [], .s (.int .i64 zz)), (2, [], .s (.p 1 0)), (1, [], .s (.int .i64 set))], [(1, .box 24 [.ref 0, .int .i64 b.rule, .int .i64 b.most]), (0, .sl .ro 61 3 b.loads encLoad zLoad)], 2, []⟩) (fun zz : Int => ⟨30, [(5, [], .s (.int .i64 zz)), (2, [], .s (.p 1 0))], [(1, .box 24 [.ref 0, .int .i64 b.rule, .int .i64 b.most]), (0, .sl .ro 61 3 b.loads encLoad zLoad)], 2, []⟩) (fun k zz => True) trivial ⟨0, rfl, Le_sel (ts := [6, 5, 2, 1]) (ids := [1, 0]) (nx := 2) (by kernel_rfl)⟩ ?_ ?_
  · intro k1 v1_1 hn1 hp1 hi1 Q1 hq1 ho1
    refine WP_seq (WP_seq (WP_region (WPO_all tt_ok (by kernel_rfl) ?_)))
    refine WP_cond (decide ((k1 : Int) < (b.loads.length : Int))) (by kernel_rfl) (fun hc1 => ?_) (fun hc1 => ?_)
    rotate_left
    · refine WP_exit ?_
      show Q1 (.exit 0) _
      exact LA_exit hq1 v1_1 (loopR_end hi1 hc1) ⟨k1, hn1, hp1⟩ (Le_sel (ts := [5, 2]) (ids := [1, 0]) (nx := 2) (by kernel_rfl))
    have hc1' := of_decide_eq_true hc1
    have hk1 : k1 < b.loads.length := by omega
    refine WP_skip ?_
    refine WP_seq (WP_block ?_)
    refine WP_seq (WP_region (WPO_run tt_ok 2 (by kernel_rfl) ?_))
    refine CALL 92 [.s (.int .i64 set), .s (.int .i64 (k1 : Int))] (.s (.bool (memberF set (k1 : Int)))) [] (by kernel_rfl) (goes_of (by kernel_rfl)) (by kernel_rfl) (by kernel_rfl) (fun hG nV w h => memberF_calls  set (k1 : Int) w  (by first | assumption | omega)) ?_
    refine WPO_nil ?_
    refine WP_join ((memberF set (k1 : Int))) (fun q => ⟨30, [(5, [], .s (.int .i64 (bif q then IntKind.i64.wrap (v1_1 + (b.loads.getD k1 zLoad).w.hi) else v1_1))), (6, [], .s (.int .i64 (k1 : Int))), (2, [], .s (.p 1 0)), (1, [], .s (.int .i64 set))], [(1, .box 24 [.ref 0, .int .i64 b.rule, .int .i64 b.most]), (0, .sl .ro 61 3 b.loads encLoad zLoad)], 2, []⟩) (by kernel_rfl) (fun hc3 => ?_) (fun hc3 => ?_) ?_
    · refine WP_region (WPO_run tt_ok 4 (by kernel_rfl) ?_)
      refine IX tt_ok (k1 : Int) b.loads.length [] (by kernel_rfl) (fun hG => ⟨by omega, by omega⟩) ?_
      refine WPO_all tt_ok (by kernel_rfl) ?_
      exact Le_sel (ts := [5, 6, 2, 1]) (ids := [1, 0]) (nx := 2) (by kernel_rfl)
    · refine WP_skip ?_
      exact Le_sel (ts := [5, 6, 2, 1]) (ids := [1, 0]) (nx := 2) (by kernel_rfl)
    refine WP_region (WPO_all tt_ok (by kernel_rfl) ?_)
    show Q1 .normal _
    exact LA_go hq1 (ci := IntKind.i64.wrap ((k1 : Int) + 1)) (bif (memberF set (k1 : Int)) then IntKind.i64.wrap (v1_1 + (b.loads.getD k1 zLoad).w.hi) else v1_1) hk1 (by show _ = ((k1 + 1 : Nat) : Int); rw [wrapI (by omega) (by omega)]; omega) (loopR_go hi1 hk1 hc1 (rfl)) trivial (Le_sel (ts := [6, 5, 2, 1]) (ids := [1, 0]) (nx := 2) (by kernel_rfl))
  intro u1_0 hR1 hP1 s' hl
  refine WP_le hl ?_
  clear hl s'
  refine WP_seq (WP_region (WPO_all tt_ok (by kernel_rfl) ?_))
  refine WP_ret ?_
  exact ⟨.s (.bool (decide (u1_0 > b.most))), by kernel_rfl, fun nV w' h => ⟨by rw [show heavyR b set = (decide (u1_0 > b.most)) from by unfold heavyR; simp only [hR1, cond_true, cond_false]]; rfl, h.bel⟩⟩
def subI (set : Int) (k : Nat) : Int := (IntKind.i64.wrap (set - (IntKind.i64.wrap (1 * 2 ^ (min (k : Int).toNat IntKind.i64.bits)))))
def StowC (b : DBook) (R : Nat → Int → Prop) (F : List Place → Int → List Place × Bool) : Prop := ∀ (sv tv : Value) (on : List Place) (set : Int) (w : World), R on.length set → (∀ x ∈ on, 0 ≤ x.load ∧ x.load < b.loads.length) → Reads w sv 3 b.loads encLoad zLoad → Reads w tv 2 on encPlace zPlace →
    Calls Tryd.prog 110 #[.agg #[sv, iv b.rule, iv b.most], iv set, tv] w fun e w' => ∃ v, e = .returned (.tuple #[v, .bool (F on set).2]) ∧ Below w.heap.size w w' ∧ Reads w' v 2 (F on set).1 encPlace zPlace ∧ (∀ g, vblk v = some g → vblk tv = some g ∨ (w.heap.size ≤ g ∧ g < w'.heap.size))
def stowS_c2 (b : DBook) (F : List Place → Int → List Place × Bool) (on : List Place) (set : Int) (k1 : Nat) (k2 : Nat) : Unit → Bool := fun _ => decide ((k2 : Int) < 3)
def stowS_b2 (b : DBook) (F : List Place → Int → List Place × Bool) (on : List Place) (set : Int) (k1 : Nat) (k2 : Nat) : Unit → Bd Unit (List Place × Bool) := fun _ => (bif (!(memberF set (k1 : Int))) || (!(memberF (b.loads.getD k1 zLoad).lanes (k2 : Int))) then .go () else (bif decide ((levelR b ((([] : List Place) ++ on) ++ ([(⟨(k1 : Int), (k2 : Int)⟩ : Place)]))) < 2) then .go () else (bif (F ((([] : List Place) ++ on) ++ ([(⟨(k1 : Int), (k2 : Int)⟩ : Place)])) (IntKind.i64.wrap (set - (IntKind.i64.wrap (1 * 2 ^ (min (k1 : Int).toNat IntKind.i64.bits)))))).2 then .ret ((F ((([] : List Place) ++ on) ++ ([(⟨(k1 : Int), (k2 : Int)⟩ : Place)])) (IntKind.i64.wrap (set - (IntKind.i64.wrap (1 * 2 ^ (min (k1 : Int).toNat IntKind.i64.bits)))))).1, true) else .go ())))
def stowS_c1 (b : DBook) (F : List Place → Int → List Place × Bool) (on : List Place) (set : Int) (k1 : Nat) : Unit → Bool := fun _ => decide ((k1 : Int) < (b.loads.length : Int))
def stowS_b1 (b : DBook) (F : List Place → Int → List Place × Bool) (on : List Place) (set : Int) (k1 : Nat) : Unit → Bd Unit (List Place × Bool) := fun _ => (match loopR (stowS_c2 b F on set k1) (stowS_b2 b F on set k1) 3 0 () with | .brk () => .go () | .ret r => .ret r)
def stowS (b : DBook) (F : List Place → Int → List Place × Bool) (on : List Place) (set : Int) : List Place × Bool :=
  (bif set == 0 then (on, true) else (match loopR (stowS_c1 b F on set) (stowS_b1 b F on set) b.loads.length 0 () with | .brk () => ([], false) | .ret r => r))
theorem stowS_calls (b : DBook) (F : List Place → Int → List Place × Bool) (R : Nat → Int → Prop) (on : List Place) (set : Int) (sv tv : Value) (w : World) (rb : Reads w sv 3 b.loads encLoad zLoad) (rd : Reads w tv 2 on encPlace zPlace) (hb5 : b.loads.length ≤ 5) (hol : on.length ≤ 10) (hin : ∀ x ∈ on, 0 ≤ x.load ∧ x.load < b.loads.length) (hF : StowC b R F) (hR : ∀ k : Nat, k < b.loads.length → memberF set (k : Int) = true → R (on.length + 1) (subI set k)) : Calls Tryd.prog 110 #[.agg #[sv, iv b.rule, iv b.most], iv set, tv] w fun e w' => ∃ v, e = .returned (.tuple #[v, .bool (stowS b F on set).2]) ∧ Below w.heap.size w w' ∧ Reads w' v 2 (stowS b F on set).1 encPlace zPlace ∧ (∀ g, vblk v = some g → vblk tv = some g ∨ (w.heap.size ≤ g ∧ g < w'.heap.size)) := by
  refine calls_of_WP (cx := cx0 w (vn [sv, tv]) 2) (n := vn [sv, tv]) (vs := [.g [.ref 0, .int .i64 b.rule, .int .i64 b.most], .s (.int .i64 set), .s (.ref 1)]) (hp := [(0, .sl .ro 61 3 b.loads encLoad zLoad), (1, .sl .ro 65 2 on encPlace zPlace)]) (nx := 2) tt_ok Tryd.func110 rfl rfl rfl (by kernel_rfl) (HSat_args (vn_one (by simp [rb.one, rd.one])) (by decide) ⟨⟨⟨fun _ => rfl, by decide, rb⟩, (Nat.le_of_ble_eq_true rfl)⟩, ⟨⟨fun _ => rfl, by decide, rd⟩, (Nat.le_of_ble_eq_true rfl)⟩, trivial⟩) (vsOk (by kernel_rfl)) ?_
  have hmr : ∀ (k l : Nat), k < b.loads.length → ∀ x ∈ (([] : List Place) ++ on) ++ [(⟨(k : Int), (l : Int)⟩ : Place)], 0 ≤ x.load ∧ x.load < b.loads.length := by
    intro k l hk x hx
    rcases List.mem_append.1 hx with hx | hx
    · exact hin x (by simpa using hx)
    · rw [List.mem_singleton.1 hx]; exact ⟨by show (0 : Int) ≤ (k : Int); omega, by show (k : Int) < _; omega⟩
  have hR1 : ∀ (k : Nat) (x : Place), k < b.loads.length → ((!(memberF set (k : Int))) || (!(memberF (b.loads.getD k zLoad).lanes x.lane))) = false → R ((([] : List Place) ++ on) ++ [x]).length (subI set k) := by
    intro k x h1 h2
    have := hR k h1 (by simpa using (Bool.or_eq_false_iff.1 h2).1)
    rw [List.length_append, List.nil_append]; exact this
  refine WP_seq (WP_region (WPO_all tt_ok (by kernel_rfl) ?_))
  refine WP_seq (WP_seq (WP_region (WPO_all tt_ok (by kernel_rfl) ?_)))
  refine WP_cond (set == 0) (by kernel_rfl) (fun hc2 => ?_) (fun hc2 => ?_)
  · have hc2' := hc2; try simp only [Bool.and_eq_true, Bool.or_eq_true, Bool.and_eq_false_iff, Bool.or_eq_false_iff, Bool.not_eq_true', Bool.not_eq_false', decide_eq_true_eq, decide_eq_false_iff_not, beq_iff_eq, beq_eq_false_iff_ne, bne_iff_ne, bne_eq_false_iff_eq, ne_eq] at hc2'
    refine WP_seq (WP_region (WPO_all tt_ok (by kernel_rfl) ?_))
    refine WP_ret ?_
    exact ⟨.t [(false, [.ref 1]), (false, [.bool true])], by kernel_rfl, fun nV w' h => ⟨nV 1, by rw [show stowS b F on set = (on, true) from by unfold stowS; simp only [hc2, cond_true, cond_false]]; rfl, h.bel, by rw [show stowS b F on set = (on, true) from by unfold stowS; simp only [hc2, cond_true, cond_false]]; exact h.reads (id := 1) (kd := .ro) (e := 65) (by kernel_rfl), fun g hg => .inl (by have e2 : nV 1 = tv := h.ini 1 (by show 1 < 2; decide); rw [← e2]; exact hg)⟩⟩
  have hc2' := hc2; try simp only [Bool.and_eq_true, Bool.or_eq_true, Bool.and_eq_false_iff, Bool.or_eq_false_iff, Bool.not_eq_true', Bool.not_eq_false', decide_eq_true_eq, decide_eq_false_iff_not, beq_iff_eq, beq_eq_false_iff_ne, bne_iff_ne, bne_eq_false_iff_eq, ne_eq] at hc2'
  refine WP_skip ?_
  refine WP_seq (WP_seq (WP_region (WPO_all tt_ok (by kernel_rfl) ?_)))
  refine WP_loopA (ρ := List Place × Bool) (stowS_c1 b F on set) (stowS_b1 b F on set) b.loads.length () (fun k : Nat => (k : Int)) (fun (ci : Int) (zz : Unit) => ⟨66, [(8, [], .s (.int .i64 ci)), (3, [], .s (.p 2 0)), (1, [], .s (.int .i64 set)), (2, [], .s (.ref 1))], [(2, .box 24 [.ref 0, .int .i64 b.rule, .int .i64 b.most]), (0, .sl .ro 61 3 b.loads encLoad zLoad), (1, .sl .ro 65 2 on encPlace zPlace)], 3, []⟩) (fun zz : Unit => ⟨66, [], [(2, .box 24 [.ref 0, .int .i64 b.rule, .int .i64 b.most]), (0, .sl .ro 61 3 b.loads encLoad zLoad), (1, .sl .ro 65 2 on encPlace zPlace)], 3, []⟩) (fun k zz => True) trivial ⟨0, rfl, Le_sel (ts := [8, 3, 1, 2]) (ids := [2, 0, 1]) (nx := 3) (by kernel_rfl)⟩ ?_ ?_
  · intro k1 zz hn1 hp1 hi1 Q1 hq1 ho1
    refine WP_seq (WP_seq (WP_region (WPO_all tt_ok (by kernel_rfl) ?_)))
    refine WP_cond (decide ((k1 : Int) < (b.loads.length : Int))) (by kernel_rfl) (fun hc3 => ?_) (fun hc3 => ?_)
    rotate_left
    · refine WP_exit ?_
      show Q1 (.exit 0) _
      exact LA_exit hq1 () (loopR_end hi1 hc3) ⟨k1, hn1, hp1⟩ (Le_sel (ts := []) (ids := [2, 0, 1]) (nx := 3) (by kernel_rfl))
    have hc3' := of_decide_eq_true hc3
    have hk1 : k1 < b.loads.length := by omega
    refine WP_skip ?_
    refine WP_seq (WP_block ?_)
    refine WP_seq (WP_region (WPO_all tt_ok (by kernel_rfl) ?_))
    refine WP_loopA (ρ := List Place × Bool) (stowS_c2 b F on set k1) (stowS_b2 b F on set k1) 3 () (fun k : Nat => (k : Int)) (fun (ci : Int) (zz : Unit) => ⟨66, [(9, [], .s (.int .i64 ci)), (8, [], .s (.int .i64 (k1 : Int))), (3, [], .s (.p 2 0)), (1, [], .s (.int .i64 set)), (2, [], .s (.ref 1))], [(2, .box 24 [.ref 0, .int .i64 b.rule, .int .i64 b.most]), (0, .sl .ro 61 3 b.loads encLoad zLoad), (1, .sl .ro 65 2 on encPlace zPlace)], 3, []⟩) (fun zz : Unit => ⟨66, [(8, [], .s (.int .i64 (k1 : Int))), (3, [], .s (.p 2 0)), (1, [], .s (.int .i64 set)), (2, [], .s (.ref 1))], [(2, .box 24 [.ref 0, .int .i64 b.rule, .int .i64 b.most]), (0, .sl .ro 61 3 b.loads encLoad zLoad), (1, .sl .ro 65 2 on encPlace zPlace)], 3, []⟩) (fun k zz => True) trivial ⟨0, rfl, Le_sel (ts := [9, 8, 3, 1, 2]) (ids := [2, 0, 1]) (nx := 3) (by kernel_rfl)⟩ ?_ ?_
    · intro k2 zz hn2 hp2 hi2 Q2 hq2 ho2
      refine WP_seq (WP_seq (WP_region (WPO_all tt_ok (by kernel_rfl) ?_)))
      refine WP_cond (decide ((k2 : Int) < 3)) (by kernel_rfl) (fun hc4 => ?_) (fun hc4 => ?_)
      rotate_left
      · refine WP_exit ?_
        show Q2 (.exit 2) _
        exact LA_exit hq2 () (loopR_end hi2 hc4) ⟨k2, hn2, hp2⟩ (Le_sel (ts := [8, 3, 1, 2]) (ids := [2, 0, 1]) (nx := 3) (by kernel_rfl))
      have hc4' := of_decide_eq_true hc4
      have hk2 : k2 < 3 := by omega
      refine WP_skip ?_
      refine WP_seq (WP_block ?_)
      refine WP_seq (WP_seq (WP_region (WPO_run tt_ok 2 (by kernel_rfl) ?_)))
      refine CALL 92 [.s (.int .i64 set), .s (.int .i64 (k1 : Int))] (.s (.bool (memberF set (k1 : Int)))) [] (by kernel_rfl) (goes_of (by kernel_rfl)) (by kernel_rfl) (by kernel_rfl) (fun hG nV w h => memberF_calls  set (k1 : Int) w  (by first | assumption | omega | exact hmr k1 k2 hk1)) ?_
      refine WPO_run tt_ok 5 (by kernel_rfl) ?_
      refine IX tt_ok (k1 : Int) b.loads.length [(!(memberF set (k1 : Int)), false)] (by kernel_rfl) (fun hG => (by (try simp only [AllEq, and_true, Bool.and_eq_true, Bool.or_eq_true, Bool.not_eq_true', decide_eq_true_eq, decide_eq_false_iff_not] at hG); constructor <;> omega)) ?_
      refine WPO_run tt_ok 3 (by kernel_rfl) ?_
      refine CALL 92 [.s (.int .i64 (b.loads.getD k1 zLoad).lanes), .s (.int .i64 (k2 : Int))] (.s (.bool (memberF (b.loads.getD k1 zLoad).lanes (k2 : Int)))) [(!(memberF set (k1 : Int)), false)] (by kernel_rfl) (goes_of (by kernel_rfl)) (by kernel_rfl) (by kernel_rfl) (fun hG nV w h => memberF_calls  (b.loads.getD k1 zLoad).lanes (k2 : Int) w  (by first | assumption | omega | exact hmr k1 k2 hk1)) ?_
      refine WPO_all tt_ok (by kernel_rfl) ?_
      refine WP_cond ((!(memberF set (k1 : Int))) || (!(memberF (b.loads.getD k1 zLoad).lanes (k2 : Int)))) (by kernel_rfl) (fun hc6 => ?_) (fun hc6 => ?_)
      · have hc6' := hc6; try simp only [Bool.and_eq_true, Bool.or_eq_true, Bool.and_eq_false_iff, Bool.or_eq_false_iff, Bool.not_eq_true', Bool.not_eq_false', decide_eq_true_eq, decide_eq_false_iff_not, beq_iff_eq, beq_eq_false_iff_ne, bne_iff_ne, bne_eq_false_iff_eq, ne_eq] at hc6'
        refine WP_exit ?_
        refine WP_region (WPO_all tt_ok (by kernel_rfl) ?_)
        show Q2 .normal _
        exact LA_go hq2 (ci := IntKind.i64.wrap ((k2 : Int) + 1)) () hk2 (by show _ = ((k2 + 1 : Nat) : Int); rw [wrapI (by omega) (by omega)]; omega) (loopR_go hi2 hk2 hc4 (by unfold stowS_b2; simp only [hc6, cond_true, cond_false])) trivial (Le_sel (ts := [9, 8, 3, 1, 2]) (ids := [2, 0, 1]) (nx := 3) (by kernel_rfl))
      have hc6' := hc6; try simp only [Bool.and_eq_true, Bool.or_eq_true, Bool.and_eq_false_iff, Bool.or_eq_false_iff, Bool.not_eq_true', Bool.not_eq_false', decide_eq_true_eq, decide_eq_false_iff_not, beq_iff_eq, beq_eq_false_iff_ne, bne_iff_ne, bne_eq_false_iff_eq, ne_eq] at hc6'
      refine WP_skip ?_
      refine WP_seq (WP_region (LIT tt_ok (by kernel_rfl) ?_))
      refine LITSL 3 65 0 2 [] ([] : List Place) encPlace zPlace (by kernel_rfl) rfl (fun _ => rfl) (fun n => rfl) ?_
      refine WPO_run tt_ok 1 (by kernel_rfl) ?_
      refine APPS tt_ok (.s (.ref 3)) (.s (.ref 1)) 25 65 (some 44) 2 ([] : List Place) on encPlace zPlace (by kernel_rfl) (by kernel_rfl) (by kernel_rfl) (by kernel_rfl) (.inr ⟨3, rfl, (by kernel_rfl)⟩) ⟨1, .ro, rfl, (by kernel_rfl)⟩ (fun y => rfl) (fun y => List.all_eq_true.1 rfl) (fun i hi => (by have hby : (tyL tt 65).map (·.bytes) = some 16 := (by kernel_rfl); rw [hi] at hby; simp only [Option.map_some, Option.some.injEq] at hby; rw [hby]; simp only [List.length_append, List.length_cons, List.length_nil]; omega)) ?_
      refine WPO_run tt_ok 3 (by kernel_rfl) ?_
      refine LIT tt_ok (by kernel_rfl) ?_
      refine LITSL 5 65 1 2 [.int .i64 (k1 : Int), .int .i64 (k2 : Int)] [(⟨(k1 : Int), (k2 : Int)⟩ : Place)] encPlace zPlace (by kernel_rfl) rfl (fun _ => rfl) (fun n => rfl) ?_
      refine APP tt_ok (.s (.ref 4)) (.s (.ref 5)) 25 65 (some 49) 2 (([] : List Place) ++ on) ([(⟨(k1 : Int), (k2 : Int)⟩ : Place)]) encPlace zPlace (by kernel_rfl) (by kernel_rfl) (by kernel_rfl) (by kernel_rfl) (.inr (.inl ⟨4, rfl, (by kernel_rfl)⟩)) (.inr ⟨5, .own, rfl, (by kernel_rfl), (by simp only [List.length_cons, List.length_nil]; omega)⟩) (by simp) (fun y => rfl) (fun y => List.all_eq_true.1 rfl) (fun i hi => (by have hby : (tyL tt 65).map (·.bytes) = some 16 := (by kernel_rfl); rw [hi] at hby; simp only [Option.map_some, Option.some.injEq] at hby; rw [hby]; simp only [List.length_append, List.length_cons, List.length_nil]; omega)) ?_
      refine WPO_all tt_ok (by kernel_rfl) ?_
      refine WP_seq (WP_seq (WP_region (WPO_run tt_ok 2 (by kernel_rfl) ?_)))
      refine CALL 109 [.g [.ref 0, .int .i64 b.rule, .int .i64 b.most], .s (.ref 6)] (.s (.int .i64 (levelR b ((([] : List Place) ++ on) ++ ([(⟨(k1 : Int), (k2 : Int)⟩ : Place)]))))) [] (by kernel_rfl) (goes_of (by kernel_rfl)) (by kernel_rfl) (by kernel_rfl) (fun hG nV w h => levelR_calls (nV 0) (nV 6) b ((([] : List Place) ++ on) ++ ([(⟨(k1 : Int), (k2 : Int)⟩ : Place)])) w (h.reads (id := 0) (kd := .ro) (e := 61) (by kernel_rfl)) (h.reads (id := 6) (kd := .own) (e := 65) (by kernel_rfl)) (by first | assumption | omega | exact hmr k1 k2 hk1)) ?_
      refine WPO_all tt_ok (by kernel_rfl) ?_
      refine WP_cond (decide ((levelR b ((([] : List Place) ++ on) ++ ([(⟨(k1 : Int), (k2 : Int)⟩ : Place)]))) < 2)) (by kernel_rfl) (fun hc8 => ?_) (fun hc8 => ?_)
      · have hc8' := of_decide_eq_true hc8
        refine WP_exit ?_
        refine WP_region (WPO_all tt_ok (by kernel_rfl) ?_)
        show Q2 .normal _
        exact LA_go hq2 (ci := IntKind.i64.wrap ((k2 : Int) + 1)) () hk2 (by show _ = ((k2 + 1 : Nat) : Int); rw [wrapI (by omega) (by omega)]; omega) (loopR_go hi2 hk2 hc4 (by unfold stowS_b2; simp only [hc6, hc8, cond_true, cond_false])) trivial (Le_sel (ts := [9, 8, 3, 1, 2]) (ids := [2, 0, 1]) (nx := 3) (by kernel_rfl))
      have hc8' := of_decide_eq_false hc8
      refine WP_skip ?_
      refine WP_seq (WP_drawH [6] (by kernel_rfl) (by kernel_rfl) ?_)
      refine H_run tt_ok [0, 1, 2] (f' := 9) (by kernel_rfl) (by kernel_rfl) (by kernel_rfl) ?_
      refine H_BIN 3 .shl 3 (.const (.int .i64 1)) (.tmp 57) (.s (.int .i64 1)) (.s (.int .i64 (k1 : Int))) (.s (.int .i64 (IntKind.i64.wrap (1 * 2 ^ (min (k1 : Int).toNat IntKind.i64.bits))))) [] (by kernel_rfl) (by kernel_rfl) (by kernel_rfl) (fun _ _ => BinOk_shl (by omega)) (by kernel_rfl) (by kernel_rfl) ?_
      refine H_run tt_ok [4, 5] (f' := 6) (by kernel_rfl) (by kernel_rfl) (by kernel_rfl) ?_
      refine H_step 6 (by kernel_rfl) (by kernel_rfl) (fun hfz cx' hx1 hx2 => ?_)
      refine CALLTK 110 [.g [.ref 0, .int .i64 b.rule, .int .i64 b.most], .s (.int .i64 (IntKind.i64.wrap (set - (IntKind.i64.wrap (1 * 2 ^ (min (k1 : Int).toNat IntKind.i64.bits)))))), .s (.ref 6)] (fun sv4 => .t [(false, [.v sv4]), (false, [.bool (F ((([] : List Place) ++ on) ++ ([(⟨(k1 : Int), (k2 : Int)⟩ : Place)])) (IntKind.i64.wrap (set - (IntKind.i64.wrap (1 * 2 ^ (min (k1 : Int).toNat IntKind.i64.bits)))))).2])]) 6 65 2 ((([] : List Place) ++ on) ++ ([(⟨(k1 : Int), (k2 : Int)⟩ : Place)])) encPlace zPlace 2 (F ((([] : List Place) ++ on) ++ ([(⟨(k1 : Int), (k2 : Int)⟩ : Place)])) (IntKind.i64.wrap (set - (IntKind.i64.wrap (1 * 2 ^ (min (k1 : Int).toNat IntKind.i64.bits)))))).1 encPlace zPlace (by kernel_rfl) (by kernel_rfl) (goes_of (by kernel_rfl)) (fun _ => (by kernel_rfl)) (fun _ => (by kernel_rfl)) (fun _ _ _ => rfl) (fun nV w h => hF (nV 0) (nV 6) _ _ w (hR1 k1 _ hk1 (by assumption)) (hmr k1 k2 hk1) (h.reads (id := 0) (kd := .ro) (e := 61) (by kernel_rfl)) (h.reads (id := 6) (kd := .own) (e := 65) (by kernel_rfl))) (fun sv4 => ?_)
      refine WPO_end (by kernel_rfl) ⟨rfl, (hfz.fnds [5, 2, 0, 1] (by kernel_rfl) ⟨by kernel_rfl, by kernel_rfl, by kernel_rfl, by kernel_rfl, trivial⟩ (by kernel_rfl)), ?_⟩
      refine H_run tt_ok [7, 8, 9, 10, 11] (f' := 0) (by kernel_rfl) (by kernel_rfl) (by kernel_rfl) ?_
      refine H_done (by kernel_rfl) ?_
      refine WP_seq (WP_region (WPO_all tt_ok (by kernel_rfl) ?_))
      refine WP_cond ((F ((([] : List Place) ++ on) ++ ([(⟨(k1 : Int), (k2 : Int)⟩ : Place)])) (IntKind.i64.wrap (set - (IntKind.i64.wrap (1 * 2 ^ (min (k1 : Int).toNat IntKind.i64.bits)))))).2) (by kernel_rfl) (fun hc10 => ?_) (fun hc10 => ?_)
      · refine WP_seq (WP_region (WPO_all tt_ok (by kernel_rfl) ?_))
        refine WP_ret ?_
        show Q2 .ret _
        refine LA_ret hq2 ?_
        show Q1 .ret _
        refine LA_ret hq1 ?_
        have he11 := loopR_ret (r := ((F ((([] : List Place) ++ on) ++ ([(⟨(k1 : Int), (k2 : Int)⟩ : Place)])) (IntKind.i64.wrap (set - (IntKind.i64.wrap (1 * 2 ^ (min (k1 : Int).toNat IntKind.i64.bits)))))).1, true)) hi2 hk2 hc4 (by unfold stowS_b2; simp only [hc6, hc8, hc10, cond_true, cond_false])
        have he12 := loopR_ret (r := ((F ((([] : List Place) ++ on) ++ ([(⟨(k1 : Int), (k2 : Int)⟩ : Place)])) (IntKind.i64.wrap (set - (IntKind.i64.wrap (1 * 2 ^ (min (k1 : Int).toNat IntKind.i64.bits)))))).1, true)) hi1 hk1 hc3 (by unfold stowS_b1; simp only [he11, cond_true, cond_false])
        exact ⟨.t [(false, [.v sv4]), (false, [.bool true])], by kernel_rfl, fun nV w' h => ⟨sv4, by rw [show stowS b F on set = ((F ((([] : List Place) ++ on) ++ ([(⟨(k1 : Int), (k2 : Int)⟩ : Place)])) (IntKind.i64.wrap (set - (IntKind.i64.wrap (1 * 2 ^ (min (k1 : Int).toNat IntKind.i64.bits)))))).1, true) from by unfold stowS; simp only [hc2, he12, cond_true, cond_false]]; rfl, h.bel, by rw [show stowS b F on set = ((F ((([] : List Place) ++ on) ++ ([(⟨(k1 : Int), (k2 : Int)⟩ : Place)])) (IntKind.i64.wrap (set - (IntKind.i64.wrap (1 * 2 ^ (min (k1 : Int).toNat IntKind.i64.bits)))))).1, true) from by unfold stowS; simp only [hc2, he12, cond_true, cond_false]]; exact (slE_lt (id := 7) (v := sv4) (sz := 2) (li := (F ((([] : List Place) ++ on) ++ ([(⟨(k1 : Int), (k2 : Int)⟩ : Place)])) (IntKind.i64.wrap (set - (IntKind.i64.wrap (1 * 2 ^ (min (k1 : Int).toNat IntKind.i64.bits)))))).1) (enc := encPlace) (z := zPlace) h (by kernel_rfl)).1, fun g hg => .inr ((slE_lt (id := 7) (v := sv4) (sz := 2) (li := (F ((([] : List Place) ++ on) ++ ([(⟨(k1 : Int), (k2 : Int)⟩ : Place)])) (IntKind.i64.wrap (set - (IntKind.i64.wrap (1 * 2 ^ (min (k1 : Int).toNat IntKind.i64.bits)))))).1) (enc := encPlace) (z := zPlace) h (by kernel_rfl)).2 g hg)⟩⟩
      refine WP_skip ?_
      refine WP_region (WPO_all tt_ok (by kernel_rfl) ?_)
      show Q2 .normal _
      exact LA_go hq2 (ci := IntKind.i64.wrap ((k2 : Int) + 1)) () hk2 (by show _ = ((k2 + 1 : Nat) : Int); rw [wrapI (by omega) (by omega)]; omega) (loopR_go hi2 hk2 hc4 (by unfold stowS_b2; simp only [hc6, hc8, hc10, cond_true, cond_false])) trivial (Le_sel (ts := [9, 8, 3, 1, 2]) (ids := [2, 0, 1]) (nx := 3) (by kernel_rfl))
    intro zz hR2 hP2 s' hl
    refine WP_le hl ?_
    clear hl s'
    refine WP_region (WPO_all tt_ok (by kernel_rfl) ?_)
    show Q1 .normal _
    exact LA_go hq1 (ci := IntKind.i64.wrap ((k1 : Int) + 1)) () hk1 (by show _ = ((k1 + 1 : Nat) : Int); rw [wrapI (by omega) (by omega)]; omega) (loopR_go hi1 hk1 hc3 (by unfold stowS_b1; simp only [hR2, cond_true, cond_false])) trivial (Le_sel (ts := [8, 3, 1, 2]) (ids := [2, 0, 1]) (nx := 3) (by kernel_rfl))
  intro zz hR1 hP1 s' hl
  refine WP_le hl ?_
  clear hl s'
  refine WP_seq (WP_region (WPO_all tt_ok (by kernel_rfl) ?_))
  refine WP_ret ?_
  exact ⟨.t [(false, [.v (.slice none 0 0)]), (false, [.bool false])], by kernel_rfl, fun nV w' h => ⟨.slice none 0 0, by rw [show stowS b F on set = ([], false) from by unfold stowS; simp only [hc2, hR1, cond_true, cond_false]]; rfl, h.bel, by rw [show stowS b F on set = ([], false) from by unfold stowS; simp only [hc2, hR1, cond_true, cond_false]]; exact reads_nil, fun g hg => by cases hg⟩⟩
end Go.Proofs.YthfnedbpmdkdjaaDoor.D
namespace Go.Proofs.YthfnedbpmdkdjaaDoor.D
open Go Go.RowKit Go.Proofs.YthfnedbpmdkdjaaDoor.Eng Go.Proofs.YthfnedbpmdkdjaaDoor.Cm
set_option linter.unusedVariables false
set_option linter.unusedSimpArgs false
set_option linter.unusedSectionVars false
def stowRD (b : DBook) : Nat → List Place → Int → List Place × Bool
  | 0 => stowS b fun _ _ => ([], false)
  | r + 1 => stowS b (stowRD b r)
theorem sub_all : ((List.range 32).all fun s : Nat => (List.range 5).all fun k : Nat => !(memberF (s : Int) (k : Int)) || (subI (s : Int) k == offI (s : Int) k && !(bitI (s : Int) k == 0))) = true := by kernel_rfl
theorem sub_spec {set : Int} {k : Nat} (h : 0 ≤ set ∧ set < 32) (hk : k < 5) (hb : memberF set (k : Int) = true) : subI set k = offI set k ∧ (bitI set k == 0) = false := by
  have h1 := List.all_eq_true.1 (List.all_eq_true.1 sub_all set.toNat (List.mem_range.2 (by omega))) k (List.mem_range.2 hk)
  rw [show ((set.toNat : Nat) : Int) = set by omega, hb] at h1
  simp only [Bool.not_true, Bool.false_or, Bool.and_eq_true, beq_iff_eq, Bool.not_eq_true'] at h1
  exact ⟨h1.1, h1.2⟩
theorem stowRD_ok {b : DBook} (hb5 : b.loads.length ≤ 5) : ∀ r : Nat, StowC b (fun n set => n + r ≤ 10 ∧ LeftOk r set) (stowRD b r) := by
  intro r
  induction r with
  | zero =>
    intro sv tv on set w hR hin rb rd
    refine stowS_calls b (fun _ _ => ([], false)) (fun _ _ => False) on set sv tv w rb rd hb5 (by omega) hin (fun _ _ _ _ _ h => h.elim) (fun k hk hb => ?_)
    exact absurd (card_pos (by omega) (sub_spec hR.2.1 (by omega) hb).2) (by have := hR.2.2; omega)
  | succ r ih =>
    intro sv tv on set w hR hin rb rd
    refine stowS_calls b (stowRD b r) (fun n set => n + r ≤ 10 ∧ LeftOk r set) on set sv tv w rb rd hb5 (by omega) hin ih (fun k hk hb => ?_)
    obtain ⟨h1, h2⟩ := sub_spec hR.2.1 (by omega) hb
    have h3 := off_spec hR.2.1 (by omega) h2
    rw [h1]
    exact ⟨by omega, h3.1, by have := hR.2.2; omega⟩
theorem stow_top {b : DBook} (hb5 : b.loads.length ≤ 5) (sv : Value) (set : Int) (w : World) (hset : 0 ≤ set ∧ set < 32) (rb : Reads w sv 3 b.loads encLoad zLoad) :
    Calls Tryd.prog 110 #[.agg #[sv, iv b.rule, iv b.most], iv set, .slice none 0 0] w fun e w' => ∃ v, e = .returned (.tuple #[v, .bool (stowRD b 5 [] set).2]) ∧ Below w.heap.size w w' ∧ Reads w' v 2 (stowRD b 5 [] set).1 encPlace zPlace ∧ (∀ g, vblk v = some g → w.heap.size ≤ g ∧ g < w'.heap.size) :=
  (stowRD_ok hb5 5 sv (.slice none 0 0) [] set w ⟨by simp, left5 hset⟩ (fun x hx => by cases hx) rb reads_nil).mono fun e w' ⟨v, h1, h2, h3, h4⟩ => ⟨v, h1, h2, h3, fun g hg => (h4 g hg).resolve_left (fun h => by cases h)⟩
theorem climbs_in {l : List Int} {n : Nat} (hn : n ≤ 100) (h : climbsF l (n : Int) = true) : ∀ x ∈ l, 0 ≤ x ∧ x < n := by
  unfold climbsF at h
  rcases loopR_keep (c := climbsF_c1 l (n : Int)) (b := climbsF_b1 l (n : Int)) (N := l.length) (fun k _ => ∀ j, j < k → 0 ≤ l.getD j 0 ∧ l.getD j 0 < (n : Int)) (fun r => r = false) (fun k v hk _ => by simp only [climbsF_c1]; rw [decide_eq_true]; omega) (fun k v hk hp => by
    simp only [climbsF_b1]
    rw [wrapI (x := (n : Int) - 1) (by omega) (by omega)]
    cases hc : insideF (l.getD k 0) 0 ((n : Int) - 1) with
    | false => right; exact ⟨_, rfl, rfl⟩
    | true =>
      have h1 : 0 ≤ l.getD k 0 ∧ l.getD k 0 < (n : Int) := by simp only [insideF, Bool.and_eq_true, decide_eq_true_eq] at hc; omega
      rw [Bool.cond_eq_ite]
      split
      · right; exact ⟨_, rfl, rfl⟩
      · left
        refine ⟨_, rfl, fun j hj => ?_⟩
        by_cases e : j = k
        · subst e; exact h1
        · exact hp j (by omega)) () (fun j hj => absurd hj (Nat.not_lt_zero j)) with ⟨v, e, hp⟩ | ⟨r, e, hf⟩
  · intro x hx
    obtain ⟨j, hj, rfl⟩ := List.mem_iff_getElem.1 hx
    have := hp j hj
    rwa [List.getD_eq_getElem?_getD, List.getElem?_eq_getElem hj] at this
  · rw [e] at h; simp only at h; rw [hf] at h; cases h
theorem setOf_in {l : List Int} (h : ∀ x ∈ l, 0 ≤ x ∧ x < 5) : 0 ≤ setOfF l ∧ setOfF l < 32 := by
  unfold setOfF
  rcases loopR_keep (c := setOfF_c1 l) (b := setOfF_b1 l) (N := l.length) (fun k v => 0 ≤ v ∧ v < 32) (fun _ => False) (fun k v hk _ => by simp only [setOfF_c1]; rw [decide_eq_true]; omega) (fun k v hk hp => by
    left
    exact ⟨_, rfl, or_in hp (h _ (getD_mem (z := 0) hk))⟩) 0 (by omega) with ⟨v, e, hp⟩ | ⟨r, e, hf⟩
  · rw [e]; exact hp
  · exact hf.elim
theorem asked_ne {b : DBook} {ok : Bool} (h : (askedR b ok != 0) = false) : checkR b = 0 := by
  unfold askedR at h
  cases hc : (checkR b != 0) with
  | true => rw [hc, cond_true, hc] at h; cases h
  | false => exact bne_eq_false_iff_eq.1 hc
theorem checkR_five {b : DBook} (h : checkR b = 0) : b.loads.length ≤ 5 := by
  unfold checkR at h
  rw [loopR_all (fun k => ((validF (b.loads.getD k zLoad).w 1 60) && (decide ((IntKind.i64.wrap ((b.loads.getD k zLoad).w.hi - (b.loads.getD k zLoad).w.lo)) ≤ 4))) && (insideF (b.loads.getD k zLoad).lanes 1 7)) (fun k v hk => by simp only [checkR_c1]; rw [decide_eq_true (by omega), Bool.and_true]) (fun k hk => rfl)] at h
  simp only at h
  cases hc : insideF (b.loads.length : Int) 1 5 with
  | false => rw [hc] at h; simp at h
  | true => simp only [insideF, Bool.and_eq_true, decide_eq_true_eq] at hc; omega
theorem pow_wrap {n : Nat} (h : n ≤ 5) : IntKind.i64.wrap (1 * 2 ^ (min (n : Int).toNat IntKind.i64.bits)) = ((2 ^ n : Nat) : Int) ∧ (2 : Nat) ^ n ≤ 32 := by
  have : n = 0 ∨ n = 1 ∨ n = 2 ∨ n = 3 ∨ n = 4 ∨ n = 5 := by omega
  rcases this with rfl | rfl | rfl | rfl | rfl | rfl <;> decide
def StowR (b : DBook) (loads : List Int) : (List Place) × Int :=
  (bif (askedR b (climbsF loads (b.loads.length : Int))) != 0 then ([], (askedR b (climbsF loads (b.loads.length : Int)))) else (bif (!(stowRD b 5 [] (setOfF loads)).2) || (heavyR b (setOfF loads)) then ([], 4) else ((stowRD b 5 [] (setOfF loads)).1, 0)))
theorem StowR_calls (g0 g1 : Value) (b : DBook) (loads : List Int) (w : World) (r0 : Reads w g0 3 b.loads encLoad zLoad) (r1 : Reads w g1 1 loads encI 0)  : Calls Tryd.prog 78 #[.agg #[g0, iv b.rule, iv b.most], g1] w fun e w' => ∃ v0, e = .returned (.tuple #[v0, iv (StowR b loads).2]) ∧ Below w.heap.size w w' ∧ Reads w' v0 2 (StowR b loads).1 encPlace zPlace ∧ (∀ g, vblk v0 = some g → w.heap.size ≤ g ∧ g < w'.heap.size) := by
  refine calls_of_WP (cx := cx0 w (vn [g0, g1]) 2) (n := vn [g0, g1]) (vs := [.g [.ref 0, .int .i64 b.rule, .int .i64 b.most], .s (.ref 1)]) (hp := [(0, .sl .ro 61 3 b.loads encLoad zLoad), (1, .sl .ro 3 1 loads encI 0)]) (nx := 2) tt_ok Tryd.func78 rfl rfl rfl (by kernel_rfl) (HSat_args (vn_one (by simp [r0.one, r1.one])) (Nat.le_refl _) ⟨⟨⟨fun _ => rfl, by decide, r0⟩, (Nat.le_of_ble_eq_true rfl)⟩, ⟨⟨fun _ => rfl, by decide, r1⟩, (Nat.le_of_ble_eq_true rfl)⟩, trivial⟩) (vsOk (by kernel_rfl)) ?_
  have hl0 := Reads.len r0
  have hl1 := Reads.len r1
  refine WP_seq (WP_region (WPO_all tt_ok (by kernel_rfl) ?_))
  refine WP_seq (WP_seq (WP_draw (by kernel_rfl) (by kernel_rfl) ?_))
  refine WPQ_run tt_ok 5 (by kernel_rfl) ?_
  refine QCALL 50 [.s (.ref 1), .s (.int .i64 (b.loads.length : Int))] (.s (.bool (climbsF loads (b.loads.length : Int)))) [] (by kernel_rfl) (goes_of (by kernel_rfl)) (by kernel_rfl) (by kernel_rfl) (fun hG nV w h => climbsF_calls (nV 1) loads (b.loads.length : Int) w (h.reads (id := 1) (kd := .ro) (e := 3) (by kernel_rfl)) ) ?_
  refine QCALL 106 [.g [.ref 0, .int .i64 b.rule, .int .i64 b.most], .s (.bool (climbsF loads (b.loads.length : Int)))] (.s (.int .i64 (askedR b (climbsF loads (b.loads.length : Int))))) [] (by kernel_rfl) (goes_of (by kernel_rfl)) (by kernel_rfl) (by kernel_rfl) (fun hG nV w h => askedR_calls (nV 0) b (climbsF loads (b.loads.length : Int)) w (h.reads (id := 0) (kd := .ro) (e := 61) (by kernel_rfl)) ) ?_
  refine WPQ_all tt_ok (by kernel_rfl) ?_
  refine WP_seq (WP_region (WPO_all tt_ok (by kernel_rfl) ?_))
  refine WP_cond ((askedR b (climbsF loads (b.loads.length : Int))) != 0) (by kernel_rfl) (fun hc2 => ?_) (fun hc2 => ?_)
  · have hc2' := hc2; try simp only [Bool.and_eq_true, Bool.or_eq_true, Bool.and_eq_false_iff, Bool.or_eq_false_iff, Bool.not_eq_true', Bool.not_eq_false', decide_eq_true_eq, decide_eq_false_iff_not, beq_iff_eq, beq_eq_false_iff_ne, bne_iff_ne, bne_eq_false_iff_eq, ne_eq] at hc2'
    refine WP_seq (WP_region (WPO_all tt_ok (by kernel_rfl) ?_))
    refine WP_ret ?_
    exact ⟨.t [(false, [.v (.slice none 0 0)]), (false, [.int .i64 (askedR b (climbsF loads (b.loads.length : Int)))])], by kernel_rfl, fun nV w' h => ⟨.slice none 0 0, by rw [show StowR b loads = ([], (askedR b (climbsF loads (b.loads.length : Int)))) from by unfold StowR; simp only [hc2, cond_true, cond_false]]; rfl, h.bel, by rw [show StowR b loads = ([], (askedR b (climbsF loads (b.loads.length : Int)))) from by unfold StowR; simp only [hc2, cond_true, cond_false]]; exact reads_nil, fun g hg => by cases hg⟩⟩
  have hc2' := hc2; try simp only [Bool.and_eq_true, Bool.or_eq_true, Bool.and_eq_false_iff, Bool.or_eq_false_iff, Bool.not_eq_true', Bool.not_eq_false', decide_eq_true_eq, decide_eq_false_iff_not, beq_iff_eq, beq_eq_false_iff_ne, bne_iff_ne, bne_eq_false_iff_eq, ne_eq] at hc2'
  refine WP_skip ?_
  have hb5 := checkR_five (asked_ne (by assumption))
  have hcl := climbs_in (l := loads) (n := b.loads.length) (by omega) (asked_ok (b := b) (by assumption))
  have hset := setOf_in (l := loads) fun x hx => ⟨(hcl x hx).1, by have := (hcl x hx).2; omega⟩
  refine WP_seq (WP_region (WPO_run tt_ok 1 (by kernel_rfl) ?_))
  refine CALL 58 [.s (.ref 1)] (.s (.int .i64 (setOfF loads))) [] (by kernel_rfl) (goes_of (by kernel_rfl)) (by kernel_rfl) (by kernel_rfl) (fun hG nV w h => setOfF_calls (nV 1) loads w (h.reads (id := 1) (kd := .ro) (e := 3) (by kernel_rfl)) (by first | assumption | omega | exact fun x hx => (hcl x hx).1)) ?_
  refine WPO_all tt_ok (by kernel_rfl) ?_
  refine WP_seq (WP_region (WPO_run tt_ok 2 (by kernel_rfl) ?_))
  refine CALLSL 110 [.g [.ref 0, .int .i64 b.rule, .int .i64 b.most], .s (.int .i64 (setOfF loads)), .s (.v (.slice none 0 0))] (fun sv1 => .t [(false, [.v sv1]), (false, [.bool (stowRD b 5 [] (setOfF loads)).2])]) 2 (stowRD b 5 [] (setOfF loads)).1 encPlace zPlace (by decide) (by kernel_rfl) (goes_of (by kernel_rfl)) (fun _ => (by kernel_rfl)) (fun _ => (by kernel_rfl)) (fun _ _ _ => rfl) (fun nV w h => stow_top (b := b) (by first | assumption | omega) (nV 0) (setOfF loads) w (by first | assumption | omega) (h.reads (id := 0) (kd := .ro) (e := 61) (by kernel_rfl))) (fun sv1 => ?_)
  refine WPO_all tt_ok (by kernel_rfl) ?_
  refine WP_seq (WP_seq (WP_region (WPO_run tt_ok 5 (by kernel_rfl) ?_)))
  refine CALL 111 [.g [.ref 0, .int .i64 b.rule, .int .i64 b.most], .s (.int .i64 (setOfF loads))] (.s (.bool (heavyR b (setOfF loads)))) [(!(stowRD b 5 [] (setOfF loads)).2, false)] (by kernel_rfl) (goes_of (by kernel_rfl)) (by kernel_rfl) (by kernel_rfl) (fun hG nV w h => heavyR_calls (nV 0) b (setOfF loads) w (h.reads (id := 0) (kd := .ro) (e := 61) (by kernel_rfl)) ) ?_
  refine WPO_all tt_ok (by kernel_rfl) ?_
  refine WP_cond ((!(stowRD b 5 [] (setOfF loads)).2) || (heavyR b (setOfF loads))) (by kernel_rfl) (fun hc4 => ?_) (fun hc4 => ?_)
  · have hc4' := hc4; try simp only [Bool.and_eq_true, Bool.or_eq_true, Bool.and_eq_false_iff, Bool.or_eq_false_iff, Bool.not_eq_true', Bool.not_eq_false', decide_eq_true_eq, decide_eq_false_iff_not, beq_iff_eq, beq_eq_false_iff_ne, bne_iff_ne, bne_eq_false_iff_eq, ne_eq] at hc4'
    refine WP_seq (WP_region (WPO_all tt_ok (by kernel_rfl) ?_))
    refine WP_ret ?_
    exact ⟨.t [(false, [.v (.slice none 0 0)]), (false, [.int .i64 4])], by kernel_rfl, fun nV w' h => ⟨.slice none 0 0, by rw [show StowR b loads = ([], 4) from by unfold StowR; simp only [hc2, hc4, cond_true, cond_false]]; rfl, h.bel, by rw [show StowR b loads = ([], 4) from by unfold StowR; simp only [hc2, hc4, cond_true, cond_false]]; exact reads_nil, fun g hg => by cases hg⟩⟩
  have hc4' := hc4; try simp only [Bool.and_eq_true, Bool.or_eq_true, Bool.and_eq_false_iff, Bool.or_eq_false_iff, Bool.not_eq_true', Bool.not_eq_false', decide_eq_true_eq, decide_eq_false_iff_not, beq_iff_eq, beq_eq_false_iff_ne, bne_iff_ne, bne_eq_false_iff_eq, ne_eq] at hc4'
  refine WP_skip ?_
  refine WP_seq (WP_region (WPO_all tt_ok (by kernel_rfl) ?_))
  refine WP_ret ?_
  exact ⟨.t [(false, [.v sv1]), (false, [.int .i64 0])], by kernel_rfl, fun nV w' h => ⟨sv1, by rw [show StowR b loads = ((stowRD b 5 [] (setOfF loads)).1, 0) from by unfold StowR; simp only [hc2, hc4, cond_true, cond_false]]; rfl, h.bel, by rw [show StowR b loads = ((stowRD b 5 [] (setOfF loads)).1, 0) from by unfold StowR; simp only [hc2, hc4, cond_true, cond_false]]; exact (slE_lt (id := 3) (v := sv1) (sz := 2) (li := (stowRD b 5 [] (setOfF loads)).1) (enc := encPlace) (z := zPlace) h (by kernel_rfl)).1, (slE_lt (id := 3) (v := sv1) (sz := 2) (li := (stowRD b 5 [] (setOfF loads)).1) (enc := encPlace) (z := zPlace) h (by kernel_rfl)).2⟩⟩
def setsR_c1 (b : DBook) (k1 : Nat) : (List Bool) → Bool := fun v1_1 => decide ((k1 : Int) < (IntKind.i64.wrap (1 * 2 ^ (min (b.loads.length : Int).toNat IntKind.i64.bits))))
def setsR_b1 (b : DBook) (k1 : Nat) : (List Bool) → Bd (List Bool) (List Bool) := fun v1_1 => .go (v1_1 ++ ([(stowRD b 5 [] (k1 : Int)).2 && (!(heavyR b (k1 : Int)))]))
def setsR (b : DBook) : (List Bool) :=
  (match loopR (setsR_c1 b) (setsR_b1 b) (2 ^ b.loads.length) 0 ([]) with | .brk u1_0 => u1_0 | .ret r => r)
theorem setsR_calls (g0 : Value) (b : DBook) (w : World) (r0 : Reads w g0 3 b.loads encLoad zLoad) (hb5 : b.loads.length ≤ 5) : Calls Tryd.prog 113 #[.agg #[g0, iv b.rule, iv b.most]] w fun e w' => ∃ v0, e = .returned (v0) ∧ Below w.heap.size w w' ∧ w'.ownsRow w.heap.size 4 1 v0 (setsR b).length (flat (setsR b) encBl) := by
  refine calls_of_WP (cx := cx0 w (vn [g0]) 1) (n := vn [g0]) (vs := [.g [.ref 0, .int .i64 b.rule, .int .i64 b.most]]) (hp := [(0, .sl .ro 61 3 b.loads encLoad zLoad)]) (nx := 1) tt_ok Tryd.func113 rfl rfl rfl (by kernel_rfl) (HSat_args (vn_one (by simp [r0.one])) (Nat.le_refl _) ⟨⟨⟨fun _ => rfl, by decide, r0⟩, (Nat.le_of_ble_eq_true rfl)⟩, trivial⟩) (vsOk (by kernel_rfl)) ?_
  have hl0 := Reads.len r0
  have hpw := (pow_wrap hb5).1
  have hpl := (pow_wrap hb5).2
  refine WP_seq (WP_region (WPO_all tt_ok (by kernel_rfl) ?_))
  refine WP_seq (WP_region (WPO_all tt_ok (by kernel_rfl) ?_))
  refine WP_seq (WP_seq (WP_region (WPO_all tt_ok (by kernel_rfl) ?_)))
  refine WP_loopA (ρ := (List Bool)) (setsR_c1 b) (setsR_b1 b) (2 ^ b.loads.length) ([]) (fun k : Nat => (k : Int)) (fun (ci : Int) (zz : (List Bool)) => ⟨32, [(4, [], .s (.int .i64 ci)), (3, [], .s (.ref 2)), (1, [], .s (.p 1 0))], [(2, .sl .own 4 1 zz encBl false), (1, .box 24 [.ref 0, .int .i64 b.rule, .int .i64 b.most]), (0, .sl .ro 61 3 b.loads encLoad zLoad)], 3, []⟩) (fun zz : (List Bool) => ⟨32, [(3, [], .s (.ref 2))], [(2, .sl .own 4 1 zz encBl false), (1, .box 24 [.ref 0, .int .i64 b.rule, .int .i64 b.most]), (0, .sl .ro 61 3 b.loads encLoad zLoad)], 3, []⟩) (fun (k1 : Nat) (zz : (List Bool)) => zz.length = k1) rfl ⟨0, rfl, Le.trans (Le_nilT [3] 4 1 encBl false (fun _ => rfl)) (Le_sel (ts := [4, 3, 1]) (ids := [2, 1, 0]) (nx := 3) (by kernel_rfl))⟩ ?_ ?_
  · intro k1 v1_1 hn1 hp1 hi1 Q1 hq1 ho1
    replace hp1 : v1_1.length = k1 := hp1
    refine WP_seq (WP_seq (WP_region (WPO_run tt_ok 4 (by kernel_rfl) ?_)))
    refine BIN .shl 3 (.const (.int .i64 1)) (.tmp 10) (.s (.int .i64 1)) (.s (.int .i64 (b.loads.length : Int))) (.s (.int .i64 (IntKind.i64.wrap (1 * 2 ^ (min (b.loads.length : Int).toNat IntKind.i64.bits))))) [] (by kernel_rfl) (by kernel_rfl) (by kernel_rfl) (fun _ => BinOk_shl (by omega)) ?_
    refine WPO_all tt_ok (by kernel_rfl) ?_
    refine WP_cond (decide ((k1 : Int) < (IntKind.i64.wrap (1 * 2 ^ (min (b.loads.length : Int).toNat IntKind.i64.bits))))) (by kernel_rfl) (fun hc1 => ?_) (fun hc1 => ?_)
    rotate_left
    · refine WP_exit ?_
      show Q1 (.exit 0) _
      exact LA_exit hq1 v1_1 (loopR_end hi1 hc1) ⟨k1, hn1, hp1⟩ (Le_sel (ts := [3]) (ids := [2, 1, 0]) (nx := 3) (by kernel_rfl))
    have hc1' := of_decide_eq_true hc1
    have hk1 : k1 < 2 ^ b.loads.length := by rw [hpw] at hc1'; omega
    refine WP_skip ?_
    refine WP_seq (WP_block ?_)
    refine WP_seq (WP_region (WPO_run tt_ok 2 (by kernel_rfl) ?_))
    refine CALLSL 110 [.g [.ref 0, .int .i64 b.rule, .int .i64 b.most], .s (.int .i64 (k1 : Int)), .s (.v (.slice none 0 0))] (fun sv2 => .t [(false, [.v sv2]), (false, [.bool (stowRD b 5 [] (k1 : Int)).2])]) 2 (stowRD b 5 [] (k1 : Int)).1 encPlace zPlace (by decide) (by kernel_rfl) (goes_of (by kernel_rfl)) (fun _ => (by kernel_rfl)) (fun _ => (by kernel_rfl)) (fun _ _ _ => rfl) (fun nV w h => stow_top (b := b) (by first | assumption | omega) (nV 0) (k1 : Int) w (by first | assumption | omega) (h.reads (id := 0) (kd := .ro) (e := 61) (by kernel_rfl))) (fun sv2 => ?_)
    refine WPO_all tt_ok (by kernel_rfl) ?_
    refine WP_region (WPO_run tt_ok 5 (by kernel_rfl) ?_)
    refine CALL 111 [.g [.ref 0, .int .i64 b.rule, .int .i64 b.most], .s (.int .i64 (k1 : Int))] (.s (.bool (heavyR b (k1 : Int)))) [((stowRD b 5 [] (k1 : Int)).2, true)] (by kernel_rfl) (goes_of (by kernel_rfl)) (by kernel_rfl) (by kernel_rfl) (fun hG nV w h => heavyR_calls (nV 0) b (k1 : Int) w (h.reads (id := 0) (kd := .ro) (e := 61) (by kernel_rfl)) ) ?_
    refine WPO_run tt_ok 2 (by kernel_rfl) ?_
    refine LIT tt_ok (by kernel_rfl) ?_
    refine LITSL 4 4 1 1 [.bool ((stowRD b 5 [] (k1 : Int)).2 && (!(heavyR b (k1 : Int))))] [(stowRD b 5 [] (k1 : Int)).2 && (!(heavyR b (k1 : Int)))] encBl false (by kernel_rfl) rfl (fun _ => rfl) (fun n => rfl) ?_
    refine APP tt_ok (.s (.ref 2)) (.s (.ref 4)) 121 4 (some 30) 1 v1_1 ([(stowRD b 5 [] (k1 : Int)).2 && (!(heavyR b (k1 : Int)))]) encBl false (by kernel_rfl) (by kernel_rfl) (by kernel_rfl) (by kernel_rfl) (.inr (.inl ⟨2, rfl, (by kernel_rfl)⟩)) (.inr ⟨4, .own, rfl, (by kernel_rfl), (by simp only [List.length_cons, List.length_nil]; omega)⟩) (by simp) (fun y => rfl) (fun y => List.all_eq_true.1 rfl) (fun i hi => (by have hby : (tyL tt 4).map (·.bytes) = some 1 := (by kernel_rfl); rw [hi] at hby; simp only [Option.map_some, Option.some.injEq] at hby; rw [hby]; simp only [List.length_append, List.length_cons, List.length_nil]; omega)) ?_
    refine WPO_all tt_ok (by kernel_rfl) ?_
    refine WP_region (WPO_all tt_ok (by kernel_rfl) ?_)
    show Q1 .normal _
    exact LA_go hq1 (ci := IntKind.i64.wrap ((k1 : Int) + 1)) (v1_1 ++ ([(stowRD b 5 [] (k1 : Int)).2 && (!(heavyR b (k1 : Int)))])) hk1 (by show _ = ((k1 + 1 : Nat) : Int); rw [wrapI (by omega) (by omega)]; omega) (loopR_go hi1 hk1 hc1 (rfl)) (by rw [List.length_append, hp1]; rfl) (Le_ren [(2, 5)] ⟨by kernel_rfl, by kernel_rfl, by kernel_rfl, trivial⟩ ⟨by kernel_rfl, rfl, by kernel_rfl, by kernel_rfl, rfl, by kernel_rfl, by kernel_rfl, rfl, by kernel_rfl, trivial⟩ (by kernel_rfl) (by kernel_rfl) (rnm_id (m := 1) (by kernel_rfl)) (by show 1 ≤ 3; decide) (by kernel_rfl) (by kernel_rfl))
  intro u1_0 hR1 hP1 s' hl
  obtain ⟨kP1, hkP1, hpP1⟩ := hP1
  replace hpP1 : u1_0.length = kP1 := hpP1
  refine WP_le hl ?_
  clear hl s'
  refine WP_seq (WP_region (WPO_all tt_ok (by kernel_rfl) ?_))
  refine WP_ret ?_
  exact ⟨.s (.ref 2), by kernel_rfl, fun nV w' h => ⟨nV 2, rfl, h.bel, by rw [show setsR b = u1_0 from by unfold setsR; simp only [hR1, cond_true, cond_false]]; exact own_of (z := false) h (by kernel_rfl)⟩⟩
end Go.Proofs.YthfnedbpmdkdjaaDoor.D
namespace Go.Proofs.YthfnedbpmdkdjaaDoor.D
open Go Go.RowKit Go.Proofs.YthfnedbpmdkdjaaDoor.Eng Go.Proofs.YthfnedbpmdkdjaaDoor.Cm
set_option linter.unusedVariables false
set_option linter.unusedSimpArgs false
set_option linter.unusedSectionVars false
def canR (b : DBook) (k : Nat) : Bool := (stowRD b 5 [] (k : Int)).2 && (!(heavyR b (k : Int)))
theorem setsR_eq {b : DBook} (hb5 : b.loads.length ≤ 5) : setsR b = (List.range (2 ^ b.loads.length)).map (canR b) := by
  obtain ⟨hpw, hpl⟩ := pow_wrap hb5
  unfold setsR
  rw [loopR_app (c := setsR_c1 b) (b := setsR_b1 b) (fun k => [canR b k]) (fun k v hk => by simp only [setsR_c1]; rw [hpw, decide_eq_true]; omega) (fun k v hk => rfl)]
  rw [List.map_eq_flatMap]
  rfl
theorem setsR_len {b : DBook} (hb5 : b.loads.length ≤ 5) : (setsR b).length = 2 ^ b.loads.length := by rw [setsR_eq hb5]; simp
def mostR_c1 (b : DBook) (k1 : Nat) : (List Int) → Bool := fun v1_1 => decide ((k1 : Int) < ((setsR b).length : Int))
def mostR_b1 (b : DBook) (k1 : Nat) : (List Int) → Bd (List Int) (List Int) := fun v1_1 => (bif ((setsR b).getD k1 false) && ((decide (((membersF (k1 : Int) (b.loads.length : Int)).length : Int) > (v1_1.length : Int))) || ((((membersF (k1 : Int) (b.loads.length : Int)).length : Int) == (v1_1.length : Int)) && (beforeF (membersF (k1 : Int) (b.loads.length : Int)) v1_1))) then .go (membersF (k1 : Int) (b.loads.length : Int)) else .go v1_1)
def mostR (b : DBook) : (List Int) :=
  (match loopR (mostR_c1 b) (mostR_b1 b) (setsR b).length 0 ([] : List Int) with | .brk u1_0 => u1_0 | .ret r => r)
theorem mostR_calls (g0 : Value) (b : DBook) (w : World) (r0 : Reads w g0 3 b.loads encLoad zLoad) (hb5 : b.loads.length ≤ 5) : Calls Tryd.prog 112 #[.agg #[g0, iv b.rule, iv b.most]] w fun e w' => ∃ v0, e = .returned (v0) ∧ Below w.heap.size w w' ∧ w'.ownsRow w.heap.size 3 1 v0 (mostR b).length (flat (mostR b) encI) := by
  refine calls_of_WP (cx := cx0 w (vn [g0]) 1) (n := vn [g0]) (vs := [.g [.ref 0, .int .i64 b.rule, .int .i64 b.most]]) (hp := [(0, .sl .ro 61 3 b.loads encLoad zLoad)]) (nx := 1) tt_ok Tryd.func112 rfl rfl rfl (by kernel_rfl) (HSat_args (vn_one (by simp [r0.one])) (Nat.le_refl _) ⟨⟨⟨fun _ => rfl, by decide, r0⟩, (Nat.le_of_ble_eq_true rfl)⟩, trivial⟩) (vsOk (by kernel_rfl)) ?_
  have hl0 := Reads.len r0
  have hsl := setsR_len hb5
  have hpl := (pow_wrap hb5).2
  refine WP_seq (WP_region (WPO_all tt_ok (by kernel_rfl) ?_))
  refine WP_seq (WP_region (WPO_run tt_ok 1 (by kernel_rfl) ?_))
  refine CALLO 113 [.g [.ref 0, .int .i64 b.rule, .int .i64 b.most]] (.s (.ref 2)) 4 1 (setsR b) encBl false 2 (by kernel_rfl) (by kernel_rfl) (goes_of (by kernel_rfl)) (by kernel_rfl) (by kernel_rfl) (fun _ => rfl) ((fun nV w h => setsR_calls (nV 0) b w (h.reads (id := 0) (kd := .ro) (e := 61) (by kernel_rfl)) (by first | assumption | omega))) ?_
  refine LIT tt_ok (by kernel_rfl) ?_
  refine LITSL 3 3 0 1 [] ([] : List Int) encI 0 (by kernel_rfl) rfl (fun _ => rfl) (fun n => rfl) ?_
  refine WPO_all tt_ok (by kernel_rfl) ?_
  refine WP_seq (WP_seq (WP_region (WPO_all tt_ok (by kernel_rfl) ?_)))
  refine WP_fact (p := ((setsR b).length : Int) ≤ 9223372036854775807) (fun nV aV wV hs => Reads.len (sz := 1) (enc := encBl) (z := false) (hs.heap.reads (id := 2) (kd := .own) (e := 4) (by kernel_rfl))) (fun hN1 => ?_)
  refine WP_loopA (ρ := (List Int)) (mostR_c1 b) (mostR_b1 b) (setsR b).length ([] : List Int) (fun k : Nat => (k : Int)) (fun (ci : Int) (zz : (List Int)) => ⟨46, [(5, [], .s (.int .i64 ci)), (4, [], .s (.ref 4)), (3, [], .s (.ref 2)), (1, [], .s (.p 1 0))], [(4, .sl .own 3 1 zz encI 0), (2, .sl .own 4 1 (setsR b) encBl false), (1, .box 24 [.ref 0, .int .i64 b.rule, .int .i64 b.most]), (0, .sl .ro 61 3 b.loads encLoad zLoad)], 5, []⟩) (fun zz : (List Int) => ⟨46, [(4, [], .s (.ref 4))], [(4, .sl .own 3 1 zz encI 0), (2, .sl .own 4 1 (setsR b) encBl false), (1, .box 24 [.ref 0, .int .i64 b.rule, .int .i64 b.most]), (0, .sl .ro 61 3 b.loads encLoad zLoad)], 5, []⟩) (fun k zz => True) trivial ⟨0, rfl, Le_ren [(4, 3)] ⟨by kernel_rfl, by kernel_rfl, by kernel_rfl, by kernel_rfl, trivial⟩ ⟨by kernel_rfl, rfl, by kernel_rfl, by kernel_rfl, rfl, by kernel_rfl, by kernel_rfl, rfl, by kernel_rfl, by kernel_rfl, rfl, by kernel_rfl, trivial⟩ (by kernel_rfl) (by kernel_rfl) (rnm_id (m := 1) (by kernel_rfl)) (by show 1 ≤ 5; decide) (by kernel_rfl) (by kernel_rfl)⟩ ?_ ?_
  · intro k1 v1_1 hn1 hp1 hi1 Q1 hq1 ho1
    refine WP_seq (WP_seq (WP_region (WPO_all tt_ok (by kernel_rfl) ?_)))
    refine WP_cond (decide ((k1 : Int) < ((setsR b).length : Int))) (by kernel_rfl) (fun hc1 => ?_) (fun hc1 => ?_)
    rotate_left
    · refine WP_exit ?_
      show Q1 (.exit 0) _
      exact LA_exit hq1 v1_1 (loopR_end hi1 hc1) ⟨k1, hn1, hp1⟩ (Le_sel (ts := [4]) (ids := [4, 2, 1, 0]) (nx := 5) (by kernel_rfl))
    have hc1' := of_decide_eq_true hc1
    have hk1 : k1 < (setsR b).length := by omega
    refine WP_skip ?_
    refine WP_seq (WP_block ?_)
    refine WP_seq (WP_region (WPO_run tt_ok 4 (by kernel_rfl) ?_))
    refine CALLO 57 [.s (.int .i64 (k1 : Int)), .s (.int .i64 (b.loads.length : Int))] (.s (.ref 5)) 3 1 (membersF (k1 : Int) (b.loads.length : Int)) encI 0 5 (by kernel_rfl) (by kernel_rfl) (goes_of (by kernel_rfl)) (by kernel_rfl) (by kernel_rfl) (fun _ => rfl) ((fun nV w h => membersF_calls  (k1 : Int) (b.loads.length : Int) w  (by first | assumption | omega))) ?_
    refine WPO_all tt_ok (by kernel_rfl) ?_
    refine WP_seq (WP_region (WPO_run tt_ok 2 (by kernel_rfl) ?_))
    refine IX tt_ok (k1 : Int) (setsR b).length [] (by kernel_rfl) (fun hG => ⟨by omega, by omega⟩) ?_
    refine WPO_run tt_ok 16 (by kernel_rfl) ?_
    refine CALL 52 [.s (.ref 5), .s (.ref 4)] (.s (.bool (beforeF (membersF (k1 : Int) (b.loads.length : Int)) v1_1))) [(((membersF (k1 : Int) (b.loads.length : Int)).length : Int) == (v1_1.length : Int), true), (decide (((membersF (k1 : Int) (b.loads.length : Int)).length : Int) > (v1_1.length : Int)), false), (((setsR b).getD k1 false), true)] (by kernel_rfl) (goes_of (by kernel_rfl)) (by kernel_rfl) (by kernel_rfl) (fun hG nV w h => beforeF_calls (nV 5) (nV 4) (membersF (k1 : Int) (b.loads.length : Int)) v1_1 w (h.reads (id := 5) (kd := .own) (e := 3) (by kernel_rfl)) (h.reads (id := 4) (kd := .own) (e := 3) (by kernel_rfl)) ) ?_
    refine WPO_all tt_ok (by kernel_rfl) ?_
    refine WP_cond (((setsR b).getD k1 false) && ((decide (((membersF (k1 : Int) (b.loads.length : Int)).length : Int) > (v1_1.length : Int))) || ((((membersF (k1 : Int) (b.loads.length : Int)).length : Int) == (v1_1.length : Int)) && (beforeF (membersF (k1 : Int) (b.loads.length : Int)) v1_1)))) (by kernel_rfl) (fun hc3 => ?_) (fun hc3 => ?_)
    · have hc3' := hc3; try simp only [Bool.and_eq_true, Bool.or_eq_true, Bool.and_eq_false_iff, Bool.or_eq_false_iff, Bool.not_eq_true', Bool.not_eq_false', decide_eq_true_eq, decide_eq_false_iff_not, beq_iff_eq, beq_eq_false_iff_ne, bne_iff_ne, bne_eq_false_iff_eq, ne_eq] at hc3'
      refine WP_region (WPO_all tt_ok (by kernel_rfl) ?_)
      refine WP_region (WPO_all tt_ok (by kernel_rfl) ?_)
      show Q1 .normal _
      exact LA_go hq1 (ci := IntKind.i64.wrap ((k1 : Int) + 1)) (membersF (k1 : Int) (b.loads.length : Int)) hk1 (by show _ = ((k1 + 1 : Nat) : Int); rw [wrapI (by omega) (by omega)]; omega) (loopR_go hi1 hk1 hc1 (by unfold mostR_b1; simp only [hc3, cond_true, cond_false])) trivial (Le_ren [(4, 5)] ⟨by kernel_rfl, by kernel_rfl, by kernel_rfl, by kernel_rfl, trivial⟩ ⟨by kernel_rfl, rfl, by kernel_rfl, by kernel_rfl, rfl, by kernel_rfl, by kernel_rfl, rfl, by kernel_rfl, by kernel_rfl, rfl, by kernel_rfl, trivial⟩ (by kernel_rfl) (by kernel_rfl) (rnm_id (m := 1) (by kernel_rfl)) (by show 1 ≤ 5; decide) (by kernel_rfl) (by kernel_rfl))
    have hc3' := hc3; try simp only [Bool.and_eq_true, Bool.or_eq_true, Bool.and_eq_false_iff, Bool.or_eq_false_iff, Bool.not_eq_true', Bool.not_eq_false', decide_eq_true_eq, decide_eq_false_iff_not, beq_iff_eq, beq_eq_false_iff_ne, bne_iff_ne, bne_eq_false_iff_eq, ne_eq] at hc3'
    refine WP_skip ?_
    refine WP_region (WPO_all tt_ok (by kernel_rfl) ?_)
    show Q1 .normal _
    exact LA_go hq1 (ci := IntKind.i64.wrap ((k1 : Int) + 1)) v1_1 hk1 (by show _ = ((k1 + 1 : Nat) : Int); rw [wrapI (by omega) (by omega)]; omega) (loopR_go hi1 hk1 hc1 (by unfold mostR_b1; simp only [hc3, cond_true, cond_false])) trivial (Le_sel (ts := [5, 4, 3, 1]) (ids := [4, 2, 1, 0]) (nx := 5) (by kernel_rfl))
  intro u1_0 hR1 hP1 s' hl
  refine WP_le hl ?_
  clear hl s'
  refine WP_seq (WP_region (WPO_all tt_ok (by kernel_rfl) ?_))
  refine WP_ret ?_
  exact ⟨.s (.ref 4), by kernel_rfl, fun nV w' h => ⟨nV 4, rfl, h.bel, by rw [show mostR b = u1_0 from by unfold mostR; simp only [hR1, cond_true, cond_false]]; exact own_of (z := 0) h (by kernel_rfl)⟩⟩
def MostR (b : DBook) : (List Int) × Int :=
  (bif (checkR b) != 0 then ([], (checkR b)) else ((mostR b), 0))
theorem MostR_calls (g0 : Value) (b : DBook) (w : World) (r0 : Reads w g0 3 b.loads encLoad zLoad)  : Calls Tryd.prog 79 #[.agg #[g0, iv b.rule, iv b.most]] w fun e w' => ∃ v0, e = .returned (.tuple #[v0, iv (MostR b).2]) ∧ Below w.heap.size w w' ∧ w'.ownsRow w.heap.size 3 1 v0 (MostR b).1.length (flat (MostR b).1 encI) := by
  refine calls_of_WP (cx := cx0 w (vn [g0]) 1) (n := vn [g0]) (vs := [.g [.ref 0, .int .i64 b.rule, .int .i64 b.most]]) (hp := [(0, .sl .ro 61 3 b.loads encLoad zLoad)]) (nx := 1) tt_ok Tryd.func79 rfl rfl rfl (by kernel_rfl) (HSat_args (vn_one (by simp [r0.one])) (Nat.le_refl _) ⟨⟨⟨fun _ => rfl, by decide, r0⟩, (Nat.le_of_ble_eq_true rfl)⟩, trivial⟩) (vsOk (by kernel_rfl)) ?_
  have hl0 := Reads.len r0
  refine WP_seq (WP_region (WPO_all tt_ok (by kernel_rfl) ?_))
  refine WP_seq (WP_seq (WP_region (WPO_run tt_ok 1 (by kernel_rfl) ?_)))
  refine CALL 74 [.g [.ref 0, .int .i64 b.rule, .int .i64 b.most]] (.s (.int .i64 (checkR b))) [] (by kernel_rfl) (goes_of (by kernel_rfl)) (by kernel_rfl) (by kernel_rfl) (fun hG nV w h => checkR_calls (nV 0) b w (h.reads (id := 0) (kd := .ro) (e := 61) (by kernel_rfl)) ) ?_
  refine WPO_all tt_ok (by kernel_rfl) ?_
  refine WP_seq (WP_region (WPO_all tt_ok (by kernel_rfl) ?_))
  refine WP_cond ((checkR b) != 0) (by kernel_rfl) (fun hc2 => ?_) (fun hc2 => ?_)
  · have hc2' := hc2; try simp only [Bool.and_eq_true, Bool.or_eq_true, Bool.and_eq_false_iff, Bool.or_eq_false_iff, Bool.not_eq_true', Bool.not_eq_false', decide_eq_true_eq, decide_eq_false_iff_not, beq_iff_eq, beq_eq_false_iff_ne, bne_iff_ne, bne_eq_false_iff_eq, ne_eq] at hc2'
    refine WP_seq (WP_region (WPO_all tt_ok (by kernel_rfl) ?_))
    refine WP_ret ?_
    exact ⟨.t [(false, [.v (.slice none 0 0)]), (false, [.int .i64 (checkR b)])], by kernel_rfl, fun nV w' h => ⟨.slice none 0 0, by rw [show MostR b = ([], (checkR b)) from by unfold MostR; simp only [hc2, cond_true, cond_false]]; rfl, h.bel, by rw [show MostR b = ([], (checkR b)) from by unfold MostR; simp only [hc2, cond_true, cond_false]]; exact own_nil _ _ _ _ _⟩⟩
  have hc2' := hc2; try simp only [Bool.and_eq_true, Bool.or_eq_true, Bool.and_eq_false_iff, Bool.or_eq_false_iff, Bool.not_eq_true', Bool.not_eq_false', decide_eq_true_eq, decide_eq_false_iff_not, beq_iff_eq, beq_eq_false_iff_ne, bne_iff_ne, bne_eq_false_iff_eq, ne_eq] at hc2'
  refine WP_skip ?_
  have hb5 := checkR_five (bne_eq_false_iff_eq.1 (by assumption))
  refine WP_seq (WP_region (WPO_run tt_ok 1 (by kernel_rfl) ?_))
  refine CALLO 112 [.g [.ref 0, .int .i64 b.rule, .int .i64 b.most]] (.s (.ref 2)) 3 1 (mostR b) encI 0 2 (by kernel_rfl) (by kernel_rfl) (goes_of (by kernel_rfl)) (by kernel_rfl) (by kernel_rfl) (fun _ => rfl) ((fun nV w h => mostR_calls (nV 0) b w (h.reads (id := 0) (kd := .ro) (e := 61) (by kernel_rfl)) (by first | assumption | omega))) ?_
  refine WPO_all tt_ok (by kernel_rfl) ?_
  refine WP_ret ?_
  exact ⟨.t [(false, [.ref 2]), (false, [.int .i64 0])], by kernel_rfl, fun nV w' h => ⟨nV 2, by rw [show MostR b = ((mostR b), 0) from by unfold MostR; simp only [hc2, cond_true, cond_false]]; rfl, h.bel, by rw [show MostR b = ((mostR b), 0) from by unfold MostR; simp only [hc2, cond_true, cond_false]]; exact own_of (z := 0) h (by kernel_rfl)⟩⟩
end Go.Proofs.YthfnedbpmdkdjaaDoor.D
namespace Go.Proofs.YthfnedbpmdkdjaaDoor.D
open Go Go.RowKit Go.Proofs.YthfnedbpmdkdjaaDoor.Eng Go.Proofs.YthfnedbpmdkdjaaDoor.Cm
set_option linter.unusedVariables false
set_option linter.unusedSimpArgs false
set_option linter.unusedSectionVars false
theorem findSome_cg {α β : Type} {f g : α → Option β} : ∀ {l : List α}, (∀ x ∈ l, f x = g x) → l.findSome? f = l.findSome? g
  | [], _ => rfl
  | x :: xs, h => by
    rw [List.findSome?_cons, List.findSome?_cons, h x (List.mem_cons_self ..), findSome_cg fun y hy => h y (List.mem_cons_of_mem _ hy)]
def k2R (b : DBook) (F : List Place → Int → List Place × Bool) (on : List Place) (left : Int) (k q : Nat) : Option (List Place × Bool) :=
  bif (!(memberF left (k : Int))) || (!(memberF (b.loads.getD k zLoad).lanes (q : Int))) then none else bif decide ((levelR b (on ++ [(⟨(k : Int), (q : Int)⟩ : Place)])) < 2) then none else bif (F (on ++ [(⟨(k : Int), (q : Int)⟩ : Place)]) (subI left k)).2 then some ((F (on ++ [(⟨(k : Int), (q : Int)⟩ : Place)]) (subI left k)).1, true) else none
theorem stowS_eq (b : DBook) (F : List Place → Int → List Place × Bool) (on : List Place) (left : Int) : stowS b F on left = if left = 0 then (on, true) else ((List.range b.loads.length).findSome? fun k => (List.range 3).findSome? (k2R b F on left k)).getD ([], false) := by
  have hin : ∀ k : Nat, loopR (stowS_c2 b F on left k) (stowS_b2 b F on left k) 3 0 () = match (List.range 3).findSome? (k2R b F on left k) with | some r => .ret r | none => .brk () := fun k => by
    refine (loopR_some (N := 3) (c := stowS_c2 b F on left k) (b := stowS_b2 b F on left k) (k2R b F on left k) (fun q hq => by simp only [stowS_c2]; rw [decide_eq_true]; omega) (fun q hq => by
      simp only [stowS_b2, k2R, List.nil_append, subI]
      cases (!(memberF left (k : Int))) || (!(memberF (b.loads.getD k zLoad).lanes (q : Int))) with
      | true => rfl
      | false =>
        cases decide ((levelR b (on ++ [(⟨(k : Int), (q : Int)⟩ : Place)])) < 2) with
        | true => rfl
        | false =>
          simp only [cond_false]
          generalize F (on ++ [(⟨(k : Int), (q : Int)⟩ : Place)]) _ = z
          obtain ⟨z1, z2⟩ := z
          cases z2 <;> rfl)).trans ?_
    cases (List.range 3).findSome? (k2R b F on left k) <;> rfl
  unfold stowS
  by_cases h0 : left = 0
  · rw [if_pos h0, h0]; rfl
  · rw [if_neg h0, show (left == 0) = false from beq_eq_false_iff_ne.2 h0, cond_false]
    rw [loopR_some (c := stowS_c1 b F on left) (b := stowS_b1 b F on left) (fun k => (List.range 3).findSome? (k2R b F on left k)) (fun k hk => by simp only [stowS_c1]; rw [decide_eq_true]; omega) (fun k hk => by
      simp only [stowS_b1, hin k]
      cases (List.range 3).findSome? (k2R b F on left k) <;> rfl)]
    cases (List.range b.loads.length).findSome? (fun k => (List.range 3).findSome? (k2R b F on left k)) <;> rfl
theorem member_bit {left : Int} {k : Nat} (h : 0 ≤ left ∧ left < 32) (hk : k < 5) : memberF left (k : Int) = !(bitI left k == 0) := mem_bits h hk
theorem pl_nat {b : DBook} {k q : Nat} (hk : k < b.loads.length) (hq : q < 3) : isPl b (k : Int) (q : Int) = memberF (b.loads.getD k zLoad).lanes (q : Int) := by
  unfold isPl
  rw [decide_eq_true (show (0 : Int) ≤ (k : Int) by omega), decide_eq_true (show (k : Int) < b.loads.length by omega), decide_eq_true (show (0 : Int) ≤ (q : Int) by omega), decide_eq_true (show (q : Int) < 3 by omega), Int.toNat_natCast]
  rfl
theorem stowRD_eq {b : DBook} (hv : ValidD b) : ∀ (r : Nat) (on : List Place) (left : Int), LeftOk r left → (∀ x ∈ on, isPl b x.load x.lane = true) → on.length + r ≤ 5 → stowRD b r on left = driveD b r on (accD b on on.length) left := by
  have hn := hv.n
  intro r
  induction r with
  | zero =>
    intro on left h hpl hlen
    rw [card0 h]
    show stowS b _ on 0 = driveS b _ on _ 0
    rw [driveS_eq, stowS_eq, if_pos rfl, if_pos rfl]
  | succ r ih =>
    intro on left h hpl hlen
    show stowS b (stowRD b r) on left = driveS b (driveD b r) on _ left
    rw [driveS_eq, stowS_eq]
    by_cases h0 : left = 0
    · rw [if_pos h0, if_pos h0]
    · rw [if_neg h0, if_neg h0]
      congr 1
      refine findSome_cg fun k hk => ?_
      have hk := List.mem_range.1 hk
      unfold g1
      cases hb : (bitI left k == 0) with
      | true =>
        rw [if_pos rfl]
        refine List.findSome?_eq_none_iff.2 fun q hq => ?_
        unfold k2R
        rw [member_bit h.1 (by omega), hb]; rfl
      | false =>
        rw [if_neg (by decide)]
        refine findSome_cg fun q hq => ?_
        have hq := List.mem_range.1 hq
        have hof := off_spec h.1 (by omega) hb
        have hmb : memberF left (k : Int) = true := by rw [member_bit h.1 (by omega), hb]; rfl
        unfold k2R g2 okP nextP
        rw [hmb, (sub_spec h.1 (by omega) hmb).1, ← pl_nat hk hq]
        cases hp : isPl b (k : Int) (q : Int) with
        | false => rfl
        | true =>
          have hpl2 : ∀ x ∈ on ++ [(⟨(k : Int), (q : Int)⟩ : Place)], isPl b x.load x.lane = true := fun x hx => by
            rcases List.mem_append.1 hx with hx | hx
            · exact hpl x hx
            · rw [List.mem_singleton.1 hx]; exact hp
          have hacc : accD b (on ++ [(⟨(k : Int), (q : Int)⟩ : Place)]) (on ++ [(⟨(k : Int), (q : Int)⟩ : Place)]).length = laneF (q : Int) (accD b on on.length) (b.loads.getD k zLoad).w := by
            unfold accD
            rw [List.take_length, List.take_length, List.foldl_append]
            show stepD b _ _ = _
            unfold stepD
            simp only [Int.toNat_natCast]
          rw [levelR_eq hv hpl2 (by rw [List.length_append, List.length_singleton]; omega), hacc, ih _ _ ⟨hof.1, by have := h.2; omega⟩ hpl2 (by rw [List.length_append, List.length_singleton]; omega), hacc]
          cases decide (levelD b (laneF (q : Int) (accD b on on.length) (b.loads.getD k zLoad).w) < 2) <;> rfl
theorem heavy_eq (b : DBook) (s : Int) : heavyR b s = decide (weightD b s > b.most) := by
  unfold heavyR
  rw [weight_eq, loopR_foldl (c := heavyR_c1 b s) (b := heavyR_b1 b s) (fun (k : Nat) (v : Int) => bif memberF s (k : Int) then IntKind.i64.wrap (v + (b.loads.getD k zLoad).w.hi) else v) (fun k v hk => by simp only [heavyR_c1]; rw [decide_eq_true]; omega) (fun k v hk => rfl)]
theorem stow_all {b : DBook} (hv : ValidD b) {s : Int} (hs : 0 ≤ s ∧ s < 32) : stowD b s = bif heavyR b s then ([], false) else stowRD b 5 [] s := by
  rw [heavy_eq, stowRD_eq hv 5 [] s (left5 hs) (fun x hx => by cases hx) (by simp)]
  rfl
theorem can_together {b : DBook} (hv : ValidD b) {k : Nat} (hk : k < 2 ^ b.loads.length) : canR b k = togetherD b (k : Int) := by
  have hp := (pow_wrap hv.n.2).2
  unfold canR togetherD
  rw [stow_all hv (by omega)]
  cases heavyR b (k : Int) <;> simp
def okC (l : List Int) (n : Int) (k : Nat) : Prop := (0 ≤ l.getD k 0 ∧ l.getD k 0 < n) ∧ (0 < k → l.getD (k - 1) 0 < l.getD k 0)
theorem climbs_iff {l : List Int} {n : Nat} (hn : n ≤ 100) (hl : l.length ≤ 9223372036854775807) : climbsF l (n : Int) = true ↔ ∀ k, k < l.length → okC l n k := by
  have hkey := loopR_keep (c := climbsF_c1 l (n : Int)) (b := climbsF_b1 l (n : Int)) (N := l.length) (fun k _ => ∀ j, j < k → okC l n j) (fun r => r = false ∧ ¬ ∀ k, k < l.length → okC l n k) (fun k v hk _ => by simp only [climbsF_c1]; rw [decide_eq_true]; omega) (fun k v hk hp => by
    simp only [climbsF_b1]
    have hkc : okC l n k ↔ ((!(insideF (l.getD k 0) 0 (IntKind.i64.wrap ((n : Int) - 1)))) || ((decide ((k : Int) > 0)) && (decide ((l.getD k 0) ≤ (l.getD (IntKind.i64.wrap ((k : Int) - 1)).toNat 0))))) = false := by
      rw [wrapI (x := (n : Int) - 1) (by omega) (by omega)]
      unfold okC insideF
      simp only [Bool.or_eq_false_iff, Bool.not_eq_false', Bool.and_eq_true, Bool.and_eq_false_iff, decide_eq_true_eq, decide_eq_false_iff_not]
      by_cases h0 : k = 0
      · subst h0
        exact ⟨fun h => ⟨by omega, .inl (by omega)⟩, fun h => ⟨by omega, fun h => absurd h (Nat.lt_irrefl _)⟩⟩
      · rw [wrapI (by omega) (by omega), show ((k : Int) - 1).toNat = k - 1 by omega]
        exact ⟨fun h => ⟨by omega, .inr (by have := h.2 (by omega); omega)⟩, fun h => ⟨by omega, fun _ => by rcases h.2 with h2 | h2 <;> omega⟩⟩
    cases hc : ((!(insideF (l.getD k 0) 0 (IntKind.i64.wrap ((n : Int) - 1)))) || ((decide ((k : Int) > 0)) && (decide ((l.getD k 0) ≤ (l.getD (IntKind.i64.wrap ((k : Int) - 1)).toNat 0))))) with
    | true => exact .inr ⟨_, rfl, rfl, fun h => by have := hkc.1 (h k hk); rw [hc] at this; cases this⟩
    | false =>
      refine .inl ⟨_, rfl, fun j hj => ?_⟩
      by_cases e : j = k
      · subst e; exact hkc.2 hc
      · exact hp j (by omega)) () (fun j hj => absurd hj (Nat.not_lt_zero j))
  unfold climbsF
  rcases hkey with ⟨v, e, hp⟩ | ⟨r, e, rfl, hq⟩
  · rw [e]; exact ⟨fun _ => hp, fun _ => rfl⟩
  · rw [e]; exact ⟨fun h => (by cases h), fun h => absurd h hq⟩
theorem setOf_fold (l : List Int) : setOfF l = l.foldl orI 0 := by
  unfold setOfF
  rw [loopR_foldl (c := setOfF_c1 l) (b := setOfF_b1 l) (fun k v => orI v (l.getD k 0)) (fun k v hk => by simp only [setOfF_c1]; rw [decide_eq_true]; omega) (fun k v hk => rfl)]
  exact range_fold l 0 orI 0
theorem stowA_climbs {b : DBook} (hv : ValidD b) {l : List Int} (hl : l.length ≤ 9223372036854775807) : stowA b l = bif climbsF l (b.loads.length : Int) then (bif !(stowD b (setOfF l)).2 then ([], 4) else ((stowD b (setOfF l)).1, 0)) else ([], 31) := by
  have hn := hv.n
  have hkey := loopR_keep (c := stowA_c1 b l) (b := stowA_b1 b l) (N := l.length) (fun k v => (∀ j, j < k → okC l b.loads.length j) ∧ (v.1 = if k = 0 then -1 else l.getD (k - 1) 0) ∧ v.2 = (l.take k).foldl orI 0) (fun r => r = ([], 31) ∧ ¬ ∀ k, k < l.length → okC l b.loads.length k) (fun k v hk _ => by obtain ⟨v1, v2⟩ := v; simp only [stowA_c1]; rw [decide_eq_true]; omega) (fun k v hk hp => by
    obtain ⟨v1, v2⟩ := v
    obtain ⟨hp1, hp2, hp3⟩ := hp
    simp only at hp2 hp3
    have hb : -1 ≤ v1 ∧ v1 < b.loads.length := by
      rw [hp2]
      by_cases h0 : k = 0
      · rw [if_pos h0]; omega
      · rw [if_neg h0]; have := (hp1 (k - 1) (by omega)).1; omega
    have hkc : okC l b.loads.length k ↔ withinD (l.getD k 0) (v1 + 1) ((b.loads.length : Int) - 1) = true := by
      unfold okC withinD
      simp only [Bool.and_eq_true, decide_eq_true_eq]
      rw [hp2]
      by_cases h0 : k = 0
      · subst h0; rw [if_pos rfl]; exact ⟨fun h => by omega, fun h => ⟨by omega, fun h => absurd h (Nat.lt_irrefl _)⟩⟩
      · rw [if_neg h0]
        have := (hp1 (k - 1) (by omega)).1
        exact ⟨fun h => by have := h.2 (by omega); omega, fun h => ⟨by omega, fun _ => by omega⟩⟩
    simp only [stowA_b1]
    rw [wrapI (x := v1 + 1) (by omega) (by omega), wrapI (x := (b.loads.length : Int) - 1) (by omega) (by omega)]
    cases hc : withinD (l.getD k 0) (v1 + 1) ((b.loads.length : Int) - 1) with
    | false => exact .inr ⟨_, rfl, rfl, fun h => by have := hkc.1 (h k hk); rw [hc] at this; cases this⟩
    | true =>
      refine .inl ⟨_, rfl, fun j hj => ?_, ?_, ?_⟩
      · by_cases e : j = k
        · subst e; exact hkc.2 hc
        · exact hp1 j (by omega)
      · simp only; rw [if_neg (by omega), Nat.add_sub_cancel]
      · simp only
        rw [fold_take orI 0 l 0 hk, ← hp3]; rfl) (-1, 0) ⟨fun j hj => absurd hj (Nat.not_lt_zero j), rfl, rfl⟩
  unfold stowA
  rw [checkD_valid.2 hv]
  have hci := climbs_iff (l := l) (n := b.loads.length) (by omega) hl
  rcases hkey with ⟨⟨v1, v2⟩, e, hp1, hp2, hp3⟩ | ⟨r, e, rfl, hq⟩
  · rw [e, hci.2 hp1]
    simp only [List.take_length] at hp3
    rw [setOf_fold, ← hp3]
    rfl
  · rw [e, show climbsF l (b.loads.length : Int) = false from Bool.eq_false_iff.2 fun h => hq (hci.1 h)]; rfl
theorem stow_same (b : DBook) {l : List Int} (hl : l.length ≤ 9223372036854775807) : stowA b l = StowR b l := by
  unfold StowR
  rcases checkD_two b with h | h
  · have hv := checkD_valid.1 h
    have hn := hv.n
    rw [stowA_climbs hv hl]
    unfold askedR
    rw [← check_same, h]
    cases hc : climbsF l (b.loads.length : Int) with
    | false => rfl
    | true =>
      have hcl := climbs_in (l := l) (n := b.loads.length) (by omega) hc
      have hset := setOf_in (l := l) fun x hx => ⟨(hcl x hx).1, by have := (hcl x hx).2; omega⟩
      rw [stow_all hv hset]
      cases heavyR b (setOfF l) with
      | true => simp
      | false => cases h9 : (stowRD b 5 [] (setOfF l)).2 <;> simp [h9]
  · unfold stowA askedR
    rw [h, ← check_same, h]; rfl
theorem M_zero (n : Nat) (hn : n ≤ 5) : M n 0 = [] := List.length_eq_zero_iff.1 ((M_empty hn (Nat.pow_pos (by decide))).2 rfl)
theorem most_fold {b : DBook} (hv : ValidD b) : mostR b = mostD b := by
  have hn := hv.n
  have hsl := setsR_len hn.2
  unfold mostR
  rw [hsl, loopR_foldl (c := mostR_c1 b) (b := mostR_b1 b) (fun (k : Nat) (v : List Int) => bif canR b k && ((decide (((M b.loads.length k).length : Int) > (v.length : Int))) || ((((M b.loads.length k).length : Int) == (v.length : Int)) && (beforeF (M b.loads.length k) v))) then M b.loads.length k else v) (fun k v hk => by simp only [mostR_c1]; rw [hsl, decide_eq_true]; omega) (fun k v hk => by
    simp only [mostR_b1]
    have hg : (setsR b).getD k false = canR b k := by
      rw [setsR_eq hn.2, List.getD_eq_getElem?_getD, List.getElem?_map, List.getElem?_range hk]; rfl
    rw [hg]
    show (bif canR b k && ((decide (((M b.loads.length k).length : Int) > (v.length : Int))) || ((((M b.loads.length k).length : Int) == (v.length : Int)) && (beforeF (M b.loads.length k) v))) then _ else _) = _
    cases canR b k && ((decide (((M b.loads.length k).length : Int) > (v.length : Int))) || ((((M b.loads.length k).length : Int) == (v.length : Int)) && (beforeF (M b.loads.length k) v))) <;> rfl)]
  simp only
  unfold mostD
  have : ∀ m, m ≤ 2 ^ b.loads.length → (List.range m).foldl (fun (v : List Int) (k : Nat) => bif canR b k && ((decide (((M b.loads.length k).length : Int) > (v.length : Int))) || ((((M b.loads.length k).length : Int) == (v.length : Int)) && (beforeF (M b.loads.length k) v))) then M b.loads.length k else v) [] = mostK b m ∧ ∃ t, t < 2 ^ b.loads.length ∧ mostK b m = M b.loads.length t := by
    intro m
    induction m with
    | zero => intro _; exact ⟨rfl, 0, Nat.pow_pos (by decide), (M_zero _ hn.2).symm⟩
    | succ m ih =>
      intro hm
      obtain ⟨h1, t, h2, h3⟩ := ih (by omega)
      rw [List.range_succ, List.foldl_append, h1, mostK_succ, listed_eq]
      simp only [List.foldl_cons, List.foldl_nil]
      rw [can_together hv (by omega), h3, better_eq hn.2 (by omega) h2]
      show (bif _ then _ else _) = (bif longerD (M b.loads.length m) (M b.loads.length t) && togetherD b (m : Int) then M b.loads.length m else M b.loads.length t) ∧ ∃ t', t' < 2 ^ b.loads.length ∧ (bif longerD (M b.loads.length m) (M b.loads.length t) && togetherD b (m : Int) then M b.loads.length m else M b.loads.length t) = M b.loads.length t'
      cases togetherD b (m : Int) with
      | false => rw [Bool.and_false, Bool.false_and]; exact ⟨rfl, t, h2, rfl⟩
      | true =>
        rw [Bool.and_true, Bool.true_and]
        cases longerD (M b.loads.length m) (M b.loads.length t) with
        | false => exact ⟨rfl, t, h2, rfl⟩
        | true => exact ⟨rfl, m, by omega, rfl⟩
  exact (this _ (Nat.le_refl _)).1
theorem most_same (b : DBook) : mostA b = MostR b := by
  unfold MostR
  rcases checkD_two b with h | h
  · have hv := checkD_valid.1 h
    rw [mostA_ok hv, ← check_same, h, most_fold hv]; rfl
  · rw [mostA_bad h, ← check_same, h]; rfl
theorem same_self (l : List Place) : sameL l l = true := by
  unfold sameL
  rw [show ((l.length : Int) != (l.length : Int)) = false by simp]
  rw [loopR_find (c := sameL_c1 l l) (b := sameL_b1 l l) (fun _ => false) (fun _ => false) (fun k hk => by simp only [sameL_c1]; rw [decide_eq_true]; omega) (fun k hk => by simp only [sameL_b1]; rw [beq_self_eq_true, beq_self_eq_true]; rfl)]
  have : (List.range l.length).find? (fun _ => false) = none := List.find?_eq_none.2 fun x _ h => by cases h
  rw [this]; rfl
end Go.Proofs.YthfnedbpmdkdjaaDoor.D
namespace Go.Proofs.YthfnedbpmdkdjaaDoor.D
open Go Go.RowKit Go.Proofs.YthfnedbpmdkdjaaDoor.Eng Go.Proofs.YthfnedbpmdkdjaaDoor.Cm
set_option linter.unusedVariables false
set_option linter.unusedSimpArgs false
set_option linter.unusedSectionVars false
def bookW (b : DBook) (k : Nat) (x : Int) : DBook := ⟨b.loads.set k ⟨⟨x, x⟩, (b.loads.getD k zLoad).lanes⟩, b.rule, b.most⟩
def wideW (b : DBook) (k : Nat) : Nat := ((b.loads.getD k zLoad).w.hi - (b.loads.getD k zLoad).w.lo + 1).toNat
def W (b : DBook) (k : Nat) : Int := (List.range (wideW b k)).foldl (fun (v : Int) (i : Nat) => mn v ((mostD (bookW b k ((b.loads.getD k zLoad).w.lo + (i : Int)))).length : Int)) (b.loads.length : Int)
end Go.Proofs.YthfnedbpmdkdjaaDoor.D
namespace Go.Proofs.YthfnedbpmdkdjaaDoor.D
open Go Go.RowKit Go.Proofs.YthfnedbpmdkdjaaDoor.Eng Go.Proofs.YthfnedbpmdkdjaaDoor.Cm
set_option linter.unusedVariables false
set_option linter.unusedSimpArgs false
set_option linter.unusedSectionVars false
theorem alike_self (l : List Int) : alikeF l l = true := by
  unfold alikeF
  rw [show ((l.length : Int) != (l.length : Int)) = false by simp]
  rw [loopR_find (fun _ => false) (fun _ => false) (fun k hk => by simp only [alikeF_c1]; rw [decide_eq_true]; omega) (fun k hk => by simp only [alikeF_b1]; simp)]
  have : (List.range l.length).find? (fun _ => false) = none := List.find?_eq_none.2 fun x _ h => by cases h
  rw [this]; rfl
structure FlipOf (b x : DBook) : Prop where
  vb : ValidD b
  vx : ValidD x
  n : x.loads.length = b.loads.length
  ld : ∀ k, k < b.loads.length → (x.loads.getD k zLoad).w = (b.loads.getD k zLoad).w ∧ ∀ l : Int, 0 ≤ l → l < 3 → laneB (x.loads.getD k zLoad) (2 - l) = laneB (b.loads.getD k zLoad) l
  rule : x.rule = b.rule
  most : x.most = b.most
theorem FlipOf.symm {b x : DBook} (h : FlipOf b x) : FlipOf x b := ⟨h.vx, h.vb, h.n.symm, fun k hk => ⟨(h.ld k (by rw [← h.n]; exact hk)).1.symm, fun l h1 h2 => by
  have := (h.ld k (by rw [← h.n]; exact hk)).2 (2 - l) (by omega) (by omega)
  rw [show 2 - (2 - l) = l by omega] at this
  exact this.symm⟩, h.rule.symm, h.most.symm⟩
end Go.Proofs.YthfnedbpmdkdjaaDoor.D
namespace Go.Proofs.YthfnedbpmdkdjaaDoor.D
open Go Go.RowKit Go.Proofs.YthfnedbpmdkdjaaDoor.Eng Go.Proofs.YthfnedbpmdkdjaaDoor.Cm
set_option linter.unusedVariables false
set_option linter.unusedSimpArgs false
set_option linter.unusedSectionVars false
def deckStowsL (own : DBook) (mine : List Int) (b : DBook) (loads : List Int) : Bool :=
  (bif (!(sameL (stowA own mine).1 (StowR b loads).1)) || ((stowA own mine).2 != (StowR b loads).2) then false else (alikeF (mostA own).1 (MostR b).1) && ((mostA own).2 == (MostR b).2))
theorem deckStowsL_calls (g0 g1 g2 g3 : Value) (own : DBook) (mine : List Int) (b : DBook) (loads : List Int) (w : World) (r0 : Reads w g0 3 own.loads encLoad zLoad) (r1 : Reads w g1 1 mine encI 0) (r2 : Reads w g2 3 b.loads encLoad zLoad) (r3 : Reads w g3 1 loads encI 0) (hnb : NobodyAt w) (hla : LanesAt w) : Calls Tryd.prog 23 #[.agg #[g0, iv own.rule, iv own.most], g1, .agg #[g2, iv b.rule, iv b.most], g3] w fun e w' => e = .returned (.bool (deckStowsL own mine b loads)) ∧ Below w.heap.size w w' := by
  refine calls_of_WP (cx := cx0 w (vn [g0, g1, g2, g3]) 4) (n := vn [g0, g1, g2, g3]) (vs := [.g [.ref 0, .int .i64 own.rule, .int .i64 own.most], .s (.ref 1), .g [.ref 2, .int .i64 b.rule, .int .i64 b.most], .s (.ref 3)]) (hp := [(0, .sl .ro 61 3 own.loads encLoad zLoad), (1, .sl .ro 3 1 mine encI 0), (2, .sl .ro 61 3 b.loads encLoad zLoad), (3, .sl .ro 3 1 loads encI 0), (4, .pf NobodyAt (· = 1)), (5, .pf LanesAt (· = 0))]) (nx := 6) tt_ok Tryd.func23 rfl rfl rfl (by kernel_rfl) (HSat_args (vn_one (by simp [r0.one, r1.one, r2.one, r3.one])) (by decide) ⟨⟨⟨fun _ => rfl, by decide, r0⟩, (Nat.le_of_ble_eq_true rfl)⟩, ⟨⟨fun _ => rfl, by decide, r1⟩, (Nat.le_of_ble_eq_true rfl)⟩, ⟨⟨fun _ => rfl, by decide, r2⟩, (Nat.le_of_ble_eq_true rfl)⟩, ⟨⟨fun _ => rfl, by decide, r3⟩, (Nat.le_of_ble_eq_true rfl)⟩, ⟨⟨hnb, fun w1 w2 h1 hw => (hw 1 rfl).trans h1, fun g hg => by cases hg; exact (Array.getElem?_eq_some_iff.1 hnb).1⟩, (Nat.le_of_ble_eq_true rfl)⟩, ⟨⟨hla, fun w1 w2 h1 hw => (hw 0 rfl).trans h1, fun g hg => by cases hg; exact (Array.getElem?_eq_some_iff.1 hla).1⟩, (Nat.le_of_ble_eq_true rfl)⟩, trivial⟩) (vsOk (by kernel_rfl)) ?_
  have hl0 := Reads.len r0
  have hl1 := Reads.len r1
  have hl2 := Reads.len r2
  have hl3 := Reads.len r3
  refine WP_seq (WP_region (WPO_all tt_ok (by kernel_rfl) ?_))
  refine WP_seq (WP_region (WPO_run tt_ok 2 (by kernel_rfl) ?_))
  refine CALLR 36 [.g [.ref 0, .int .i64 own.rule, .int .i64 own.most], .s (.ref 1)] (.t [(false, [.ref 8]), (false, [.int .i64 (stowA own mine).2])]) 65 2 (stowA own mine).1 encPlace zPlace 8 (by kernel_rfl) (by kernel_rfl) (goes_of (by kernel_rfl)) (by kernel_rfl) (by kernel_rfl) (by decide) (fun _ => rfl) (fun nV w h => (stowA_calls (nV 0) (nV 1) own mine w (h.reads (id := 0) (kd := .ro) (e := 61) (by kernel_rfl)) (h.reads (id := 1) (kd := .ro) (e := 3) (by kernel_rfl)) (h.ents (4, .pf NobodyAt (· = 1)) (fnd_mem (by kernel_rfl))).1 (h.ents (5, .pf LanesAt (· = 0)) (fnd_mem (by kernel_rfl))).1 ).mono fun e w' h1 => weak_fresh h1) ?_
  refine WPO_all tt_ok (by kernel_rfl) ?_
  refine WP_seq (WP_region (WPO_run tt_ok 2 (by kernel_rfl) ?_))
  refine CALLR 78 [.g [.ref 2, .int .i64 b.rule, .int .i64 b.most], .s (.ref 3)] (.t [(false, [.ref 9]), (false, [.int .i64 (StowR b loads).2])]) 65 2 (StowR b loads).1 encPlace zPlace 9 (by kernel_rfl) (by kernel_rfl) (goes_of (by kernel_rfl)) (by kernel_rfl) (by kernel_rfl) (by decide) (fun _ => rfl) (fun nV w h => (StowR_calls (nV 2) (nV 3) b loads w (h.reads (id := 2) (kd := .ro) (e := 61) (by kernel_rfl)) (h.reads (id := 3) (kd := .ro) (e := 3) (by kernel_rfl)) ).mono fun e w' h1 => weak_fresh h1) ?_
  refine WPO_all tt_ok (by kernel_rfl) ?_
  refine WP_seq (WP_seq (WP_region (WPO_run tt_ok 2 (by kernel_rfl) ?_)))
  refine CALL 70 [.s (.ref 8), .s (.ref 9)] (.s (.bool (sameL (stowA own mine).1 (StowR b loads).1))) [] (by kernel_rfl) (goes_of (by kernel_rfl)) (by kernel_rfl) (by kernel_rfl) (fun hG nV w h => sameL_calls (nV 8) (nV 9) (stowA own mine).1 (StowR b loads).1 w (h.reads (id := 8) (kd := .ro) (e := 65) (by kernel_rfl)) (h.reads (id := 9) (kd := .ro) (e := 65) (by kernel_rfl)) ) ?_
  refine WPO_all tt_ok (by kernel_rfl) ?_
  refine WP_cond ((!(sameL (stowA own mine).1 (StowR b loads).1)) || ((stowA own mine).2 != (StowR b loads).2)) (by kernel_rfl) (fun hc2 => ?_) (fun hc2 => ?_)
  · have hc2' := hc2; try simp only [Bool.and_eq_true, Bool.or_eq_true, Bool.and_eq_false_iff, Bool.or_eq_false_iff, Bool.not_eq_true', Bool.not_eq_false', decide_eq_true_eq, decide_eq_false_iff_not, beq_iff_eq, beq_eq_false_iff_ne, bne_iff_ne, bne_eq_false_iff_eq, ne_eq] at hc2'
    refine WP_seq (WP_region (WPO_all tt_ok (by kernel_rfl) ?_))
    refine WP_ret ?_
    exact ⟨.s (.bool false), by kernel_rfl, fun nV w' h => ⟨by rw [show deckStowsL own mine b loads = false from by unfold deckStowsL; simp only [hc2, cond_true, cond_false]]; rfl, h.bel⟩⟩
  have hc2' := hc2; try simp only [Bool.and_eq_true, Bool.or_eq_true, Bool.and_eq_false_iff, Bool.or_eq_false_iff, Bool.not_eq_true', Bool.not_eq_false', decide_eq_true_eq, decide_eq_false_iff_not, beq_iff_eq, beq_eq_false_iff_ne, bne_iff_ne, bne_eq_false_iff_eq, ne_eq] at hc2'
  refine WP_skip ?_
  refine WP_seq (WP_region (WPO_run tt_ok 1 (by kernel_rfl) ?_))
  refine CALLR 45 [.g [.ref 0, .int .i64 own.rule, .int .i64 own.most]] (.t [(false, [.ref 10]), (false, [.int .i64 (mostA own).2])]) 3 1 (mostA own).1 encI 0 10 (by kernel_rfl) (by kernel_rfl) (goes_of (by kernel_rfl)) (by kernel_rfl) (by kernel_rfl) (by decide) (fun _ => rfl) (fun nV w h => (mostA_calls (nV 0) own w (h.reads (id := 0) (kd := .ro) (e := 61) (by kernel_rfl)) (h.ents (4, .pf NobodyAt (· = 1)) (fnd_mem (by kernel_rfl))).1 (h.ents (5, .pf LanesAt (· = 0)) (fnd_mem (by kernel_rfl))).1 ).mono fun e w' h1 => weak_fresh h1) ?_
  refine WPO_all tt_ok (by kernel_rfl) ?_
  refine WP_seq (WP_region (WPO_run tt_ok 1 (by kernel_rfl) ?_))
  refine CALLO 79 [.g [.ref 2, .int .i64 b.rule, .int .i64 b.most]] (.t [(false, [.ref 11]), (false, [.int .i64 (MostR b).2])]) 3 1 (MostR b).1 encI 0 11 (by kernel_rfl) (by kernel_rfl) (goes_of (by kernel_rfl)) (by kernel_rfl) (by kernel_rfl) (fun _ => rfl) ((fun nV w h => MostR_calls (nV 2) b w (h.reads (id := 2) (kd := .ro) (e := 61) (by kernel_rfl)) )) ?_
  refine WPO_all tt_ok (by kernel_rfl) ?_
  refine WP_seq (WP_region (WPO_run tt_ok 2 (by kernel_rfl) ?_))
  refine CALL 24 [.s (.ref 10), .s (.ref 11)] (.s (.bool (alikeF (mostA own).1 (MostR b).1))) [] (by kernel_rfl) (goes_of (by kernel_rfl)) (by kernel_rfl) (by kernel_rfl) (fun hG nV w h => alikeF_calls (nV 10) (nV 11) (mostA own).1 (MostR b).1 w (h.reads (id := 10) (kd := .ro) (e := 3) (by kernel_rfl)) (h.reads (id := 11) (kd := .own) (e := 3) (by kernel_rfl)) ) ?_
  refine WPO_all tt_ok (by kernel_rfl) ?_
  refine WP_ret ?_
  exact ⟨.s (.bool ((alikeF (mostA own).1 (MostR b).1) && ((mostA own).2 == (MostR b).2))), by kernel_rfl, fun nV w' h => ⟨by rw [show deckStowsL own mine b loads = ((alikeF (mostA own).1 (MostR b).1) && ((mostA own).2 == (MostR b).2)) from by unfold deckStowsL; simp only [hc2, cond_true, cond_false]]; rfl, h.bel⟩⟩
def DeckStowsL (b : DBook) (loads : List Int) : Bool :=
  (((deckStowsL (ownDeckF b) loads b loads) && (keptDeckF (ownDeckF b) b)) && (alikeF loads loads)) && stowedL
theorem DeckStowsL_calls (g0 g1 : Value) (b : DBook) (loads : List Int) (w : World) (r0 : Reads w g0 3 b.loads encLoad zLoad) (r1 : Reads w g1 1 loads encI 0) (hnb : NobodyAt w) (hla : LanesAt w) (hL0 : b.loads.length * 24 ≤ 140737488355328) (hL1 : loads.length * 8 ≤ 140737488355328) : Calls Tryd.prog 4 #[.agg #[g0, iv b.rule, iv b.most], g1] w fun e w' => e = .returned (.bool (DeckStowsL b loads)) ∧ Below w.heap.size w w' := by
  refine calls_of_WP (cx := cx0 w (vn [g0, g1]) 2) (n := vn [g0, g1]) (vs := [.g [.ref 0, .int .i64 b.rule, .int .i64 b.most], .s (.ref 1)]) (hp := [(0, .sl .ro 61 3 b.loads encLoad zLoad), (1, .sl .ro 3 1 loads encI 0), (2, .pf NobodyAt (· = 1)), (3, .pf LanesAt (· = 0))]) (nx := 4) tt_ok Tryd.func4 rfl rfl rfl (by kernel_rfl) (HSat_args (vn_one (by simp [r0.one, r1.one])) (by decide) ⟨⟨⟨fun _ => rfl, by decide, r0⟩, (Nat.le_of_ble_eq_true rfl)⟩, ⟨⟨fun _ => rfl, by decide, r1⟩, (Nat.le_of_ble_eq_true rfl)⟩, ⟨⟨hnb, fun w1 w2 h1 hw => (hw 1 rfl).trans h1, fun g hg => by cases hg; exact (Array.getElem?_eq_some_iff.1 hnb).1⟩, (Nat.le_of_ble_eq_true rfl)⟩, ⟨⟨hla, fun w1 w2 h1 hw => (hw 0 rfl).trans h1, fun g hg => by cases hg; exact (Array.getElem?_eq_some_iff.1 hla).1⟩, (Nat.le_of_ble_eq_true rfl)⟩, trivial⟩) (vsOk (by kernel_rfl)) ?_
  have hl0 := Reads.len r0
  have hl1 := Reads.len r1
  refine WP_seq (WP_region (WPO_all tt_ok (by kernel_rfl) ?_))
  refine WP_seq (WP_region (WPO_run tt_ok 1 (by kernel_rfl) ?_))
  refine CALLRS 16 [.g [.ref 0, .int .i64 b.rule, .int .i64 b.most]] (.g [.ref 5, .int .i64 (ownDeckF b).rule, .int .i64 (ownDeckF b).most]) [⟨61, 3, _, (ownDeckF b).loads, encLoad, zLoad⟩] 5 (by kernel_rfl) (by kernel_rfl) (goes_of (by kernel_rfl)) (by kernel_rfl) (by kernel_rfl) ⟨⟨(Nat.le_of_ble_eq_true rfl), fun _ => rfl⟩, trivial⟩ (fun nV w h => (ownDeckF_calls (nV 0) b w (h.reads (id := 0) (kd := .ro) (e := 61) (by kernel_rfl)) (by first | assumption | omega)).mono fun e w' ⟨v0, h1, h2, h3, _⟩ => ⟨[v0], h1, h2, h3⟩) ?_
  refine WPO_run tt_ok 1 (by kernel_rfl) ?_
  refine CALLRS 22 [.s (.ref 1)] (.s (.ref 6)) [⟨3, 1, _, loads, encI, 0⟩] 6 (by kernel_rfl) (by kernel_rfl) (goes_of (by kernel_rfl)) (by kernel_rfl) (by kernel_rfl) ⟨⟨(Nat.le_of_ble_eq_true rfl), fun _ => rfl⟩, trivial⟩ (fun nV w h => (ownInts_calls (nV 1) loads w (h.reads (id := 1) (kd := .ro) (e := 3) (by kernel_rfl)) (by assumption)).mono fun e w' ⟨v0, h1, h2, h3, _⟩ => ⟨[v0], h1, h2, h3⟩) ?_
  refine WPO_all tt_ok (by kernel_rfl) ?_
  refine WP_seq (WP_region (WPO_run tt_ok 4 (by kernel_rfl) ?_))
  refine CALL 23 [.g [.ref 5, .int .i64 (ownDeckF b).rule, .int .i64 (ownDeckF b).most], .s (.ref 6), .g [.ref 0, .int .i64 b.rule, .int .i64 b.most], .s (.ref 1)] (.s (.bool (deckStowsL (ownDeckF b) loads b loads))) [] (by kernel_rfl) (goes_of (by kernel_rfl)) (by kernel_rfl) (by kernel_rfl) (fun hG nV w h => deckStowsL_calls (nV 5) (nV 6) (nV 0) (nV 1) (ownDeckF b) loads b loads w (h.reads (id := 5) (kd := .ro) (e := 61) (by kernel_rfl)) (h.reads (id := 6) (kd := .ro) (e := 3) (by kernel_rfl)) (h.reads (id := 0) (kd := .ro) (e := 61) (by kernel_rfl)) (h.reads (id := 1) (kd := .ro) (e := 3) (by kernel_rfl)) (h.ents (2, .pf NobodyAt (· = 1)) (fnd_mem (by kernel_rfl))).1 (h.ents (3, .pf LanesAt (· = 0)) (fnd_mem (by kernel_rfl))).1 ) ?_
  refine WPO_run tt_ok 3 (by kernel_rfl) ?_
  refine CALL 19 [.g [.ref 5, .int .i64 (ownDeckF b).rule, .int .i64 (ownDeckF b).most], .g [.ref 0, .int .i64 b.rule, .int .i64 b.most]] (.s (.bool (keptDeckF (ownDeckF b) b))) [((deckStowsL (ownDeckF b) loads b loads), true)] (by kernel_rfl) (goes_of (by kernel_rfl)) (by kernel_rfl) (by kernel_rfl) (fun hG nV w h => keptDeckF_calls (nV 5) (nV 0) (ownDeckF b) b w (h.reads (id := 5) (kd := .ro) (e := 61) (by kernel_rfl)) (h.reads (id := 0) (kd := .ro) (e := 61) (by kernel_rfl)) ) ?_
  refine WPO_run tt_ok 4 (by kernel_rfl) ?_
  refine CALL 24 [.s (.ref 6), .s (.ref 1)] (.s (.bool (alikeF loads loads))) [((deckStowsL (ownDeckF b) loads b loads) && (keptDeckF (ownDeckF b) b), true)] (by kernel_rfl) (goes_of (by kernel_rfl)) (by kernel_rfl) (by kernel_rfl) (fun hG nV w h => alikeF_calls (nV 6) (nV 1) loads loads w (h.reads (id := 6) (kd := .ro) (e := 3) (by kernel_rfl)) (h.reads (id := 1) (kd := .ro) (e := 3) (by kernel_rfl)) ) ?_
  refine WPO_run tt_ok 2 (by kernel_rfl) ?_
  refine CALL 21 [] (.s (.bool stowedL)) [(((deckStowsL (ownDeckF b) loads b loads) && (keptDeckF (ownDeckF b) b)) && (alikeF loads loads), true)] (by kernel_rfl) (goes_of (by kernel_rfl)) (by kernel_rfl) (by kernel_rfl) (fun hG nV w h => stowedL_calls   w (h.ents (2, .pf NobodyAt (· = 1)) (fnd_mem (by kernel_rfl))).1 (h.ents (3, .pf LanesAt (· = 0)) (fnd_mem (by kernel_rfl))).1 ) ?_
  refine WPO_all tt_ok (by kernel_rfl) ?_
  refine WP_ret ?_
  exact ⟨.s (.bool ((((deckStowsL (ownDeckF b) loads b loads) && (keptDeckF (ownDeckF b) b)) && (alikeF loads loads)) && stowedL)), by kernel_rfl, fun nV w' h => ⟨by rw [show DeckStowsL b loads = ((((deckStowsL (ownDeckF b) loads b loads) && (keptDeckF (ownDeckF b) b)) && (alikeF loads loads)) && stowedL) from rfl]; rfl, h.bel⟩⟩
end Go.Proofs.YthfnedbpmdkdjaaDoor.D
namespace Go.Proofs.YthfnedbpmdkdjaaDoor.D
open Go Go.RowKit Go.Proofs.YthfnedbpmdkdjaaDoor.Eng Go.Proofs.YthfnedbpmdkdjaaDoor.Cm
set_option linter.unusedVariables false
theorem DeckStows_true (b : DBook) (loads : List Int) (h : loads.length * 8 ≤ 140737488355328) : DeckStowsL b loads = true := by
  have hl : loads.length ≤ 9223372036854775807 := by omega
  unfold DeckStowsL deckStowsL
  rw [stowedL_true, alike_self]
  simp only [ownDeckF]
  rw [keptDeck_self, stow_same b hl, most_same b, same_self, alike_self]
  simp
end Go.Proofs.YthfnedbpmdkdjaaDoor.D
namespace Go.Proofs.YthfnedbpmdkdjaaDoor.D
open Go Go.ChangeShapes Go.WideShapes Go.RowKit Go.Proofs.YthfnedbpmdkdjaaDoor.Eng Go.Proofs.YthfnedbpmdkdjaaDoor.Cm
set_option linter.unusedVariables false
set_option linter.unusedSimpArgs false
set_option maxRecDepth 100000
namespace DeckStows
theorem door_met_deckStows (os : Os) (args : Array Value) : laidMetH Tryd.prog Rows.deckStowsRow.laid ((World.doorLaid Tryd.prog 30 os).forCall (fun _ _ => 0) ⟨#[], args, []⟩).memory :=
  laidMetH_of_parts3 (fuel := 8) (laidMet_of_run' 8 (by kernel_rfl) (by kernel_rfl)) (by kernel_rfl) (by kernel_rfl)
theorem contract (H : Type) (enc : TypeId × Value → H) (W : World) (base : Nat) (args : Array Value) (ds gs : List (DataW H)) (before : List MemPlace)
    (hval : ∀ (j : Nat) t v, Tryd.f4.params[j]? = some t → args[j]? = some v → Value.okWide Tryd.prog W .any base t v)
    (hW : DataW.Whole enc Tryd.prog Tryd.f4.params.toList Rows.deckStowsSpec.vars false W args.toList ds gs before)
    (hsz0 : (DataW.weightsEach Tryd.prog (Tryd.f4.params.toList ++ []) (ds ++ gs)).all (fun x => decide (x ≤ reachBytes)) = true) (hL : laidMetH Tryd.prog Rows.deckStowsRow.laid W) (hS : W.ShapedOpen Tryd.prog) :
    Calls Tryd.prog 4 args W fun e W' => ∃ v, e = .returned v ∧ Rows.deckStowsSpec.post enc Tryd.prog Tryd.f4 false true false false W args v W' := by
  have hW' := hW
  obtain ⟨p, q, hA0, hV, rfl, hfz, hnd⟩ := hW
  have hA : DataW.TrodAll enc Tryd.prog W 0 (fun _ => true) true Tryd.f4.params.toList args.toList ds p := hA0
  rw [Tryd.params4] at hA hval hsz0
  clear hA0
  obtain ⟨v0, vs0, d0, ds0, p0, q0, hargs, rfl, rfl, h0, r0⟩ := trodAll_cons hA
  obtain ⟨v1, vs1, d1, ds1, p1, q1, rfl, rfl, rfl, h1, r1⟩ := trodAll_cons r0
  obtain ⟨rfl, rfl, rfl⟩ := trodAll_nil r1
  obtain rfl : args = #[v0, v1] := by apply Array.ext'; rw [hargs]
  obtain ⟨rfl, rfl⟩ := trodVars_none hV
  have hsz : (DataW.weightsEach Tryd.prog [24, 33] [d0, d1]).all (fun x => decide (x ≤ reachBytes)) = true := by simpa using hsz0
  have hb0 : Wb Tryd.prog 24 d0 := Bd_each hsz (j := 0) rfl rfl
  obtain ⟨c0, rfl, ⟨g0_0, x0, y0, q0_0, q0_1, q0_2, _⟩⟩ := arg_agg Tryd.underlying24 (hval 0 24 v0 rfl rfl) h0 hb0 opn24
  rw [agg_of y0] at *
  have hb1 : Wb Tryd.prog 33 d1 := Bd_each hsz (j := 1) rfl rfl
  obtain ⟨x1, q1_0⟩ := arg_slice (φ := fun v => ∃ b : List Int, (Reads W v 1 b encI 0 ∧ (∀ a ∈ b, i64B a) ∧ b.length * 8 ≤ reachBytes)) Tryd.underlying33 (hval 1 33 v1 rfl rfl) h1 hb1 (opn33.mono fun cs ⟨g, b, h1, h2, _⟩ => ⟨g, h1, b, h2⟩)
  have ha := deck_of hS hL
  have hc := DeckStowsL_calls g0_0 v1 x0 x1 W q0_0.1 q1_0.1 ha.1 ha.2 (Nat.le_trans q0_0.2.2 (by decide)) (Nat.le_trans q1_0.2.2 (by decide))
  refine hc.mono fun e W' ⟨he, hb⟩ => ?_
  refine ⟨.bool true, he.trans (by rw [DeckStows_true x0 x1 (Nat.le_trans q1_0.2.2 (by decide))]), law_post laidOut (fun u hu => ?_) hW' rfl (by kernel_rfl) Tryd.underlying4 rfl rfl rfl hb⟩
  have hall : ([24, 33] : List TypeId).all (fun u => Tryd.prog.readableRec u && decide (u < Tryd.prog.types.size)) = true := by kernel_rfl
  have hu' : u ∈ ([24, 33] : List TypeId) := hu
  have := List.all_eq_true.1 hall u hu'
  simp only [Bool.and_eq_true, decide_eq_true_eq] at this
  exact this
theorem reads (os : Os) {H : Type} (enc : TypeId × Value → H) : ∃ places, DataW.whole enc Tryd.prog ((World.doorLaid Tryd.prog 30 os).forCall (fun _ _ => 0) ⟨#[], #[.agg #[.slice none 0 0, .int .i64 0, .int .i64 0], .slice none 0 0], []⟩).memory Tryd.f4.params.toList Rows.deckStowsSpec.vars false (#[.agg #[.slice none 0 0, .int .i64 0, .int .i64 0], .slice none 0 0] : Array Value).toList 8 = some ([.agg [.nil, .lit (.int .i64 0), .lit (.int .i64 0)], .nil], [], places) :=
  ⟨[], by kernel_rfl⟩
set_option maxRecDepth 100000 in
theorem lifted (os : Os) (started : os.Started) (H : Type) (enc : TypeId × Value → H) (F : Stop.Interp) :
    ReturnsInHanded {} Tryd.checked os 4 .any ((OpenSpec.ofChange Rows.deckStowsSpec).preRow enc Tryd.prog Tryd.f4 Rows.deckStowsRow.domain false Rows.deckStowsRow.laid) (((OpenSpec.ofChange Rows.deckStowsSpec).at F).post enc Tryd.prog Tryd.f4 false true false false) := by
  obtain ⟨places, hx⟩ := reads os enc
  refine returnsInHanded_of_row (C := Tryd.checked) (s := OpenSpec.ofChange Rows.deckStowsSpec) own started (by kernel_rfl) Tryd.func4
    (witness_row_atRef (enc := enc) (C := Tryd.checked) false (World.doorLaid Tryd.prog 30 os) #[.agg #[.slice none 0 0, .int .i64 0, .int .i64 0], .slice none 0 0] rfl (by kernel_rfl) (by kernel_rfl) (by kernel_rfl)
      (OpenSpec.preRow_of_cond 8 hx (by kernel_rfl) (fun k hk => by cases hk) (by kernel_rfl) (door_met_deckStows os _))) ?_
  intro W base args ds gs before hval hW _ hcond hsz hL hS _
  exact contract H enc W base args ds gs before hval hW hsz hL hS
theorem said : Rows.DeckStowsSaid :=
  OpenClaim.holds_of_cond 4 Tryd.f4 rfl rfl rfl rfl rfl rfl rfl ⟨rfl, rfl, rfl, rfl, rfl⟩ rfl rfl rfl rfl rfl (by kernel_rfl) Tryd.func4 (by kernel_rfl)
    (of_decide_eq_true (by kernel_rfl)) (by unfold Func.isWrapper; first | (rw [if_pos (by decide +kernel)]; kernel_rfl) | (rw [if_neg (by decide +kernel)]; exact ⟨rfl, rfl⟩))
    (fun os started H enc _ F => by rw [OpenClaim.pre_eq_preRow]; exact lifted os started H enc F)
theorem plain (f : FuncId) (fn : Func) (hf : Tryd.pinned.checked.prog.funcNamed "prow/prowlaw03.DeckStows" = some f) (hfn : Tryd.pinned.checked.prog.funcs[f]? = some fn) :
    false = Tryd.pinned.checked.prog.looks [] ∧ ∀ (j : Nat) t, fn.params[j]? = some t → Tryd.pinned.checked.prog.wantsStandIn t = false := by
  obtain rfl : f = 4 := Option.some.inj ((show Tryd.prog.funcNamed "prow/prowlaw03.DeckStows" = some 4 by kernel_rfl).symm.trans hf) |>.symm
  obtain rfl : fn = Tryd.f4 := (Option.some.inj (Tryd.func4.symm.trans hfn)).symm
  refine ⟨by kernel_rfl, fun j t ht => ?_⟩
  rw [Tryd.params4] at ht
  have hm : t ∈ ([24, 33] : List TypeId) := by simpa using Array.mem_of_getElem? ht
  have hall : (([24, 33] : List TypeId).all fun u => !Tryd.prog.wantsStandIn u) = true := by kernel_rfl
  exact (show Tryd.prog.wantsStandIn t = false by simpa using List.all_eq_true.1 hall t hm)
theorem card : Rows.DeckStowsCardSaid :=
  Claim7.holds_tied_plain_at .later [] _ _ _ _ said (fun _ h => by cases h) (by kernel_rfl) (fun _ h => by cases h) deckStows_row_tie rfl ⟨rfl, rfl⟩ (by kernel_rfl) rfl plain (by kernel_rfl)
end DeckStows
end Go.Proofs.YthfnedbpmdkdjaaDoor.D
theorem Go.Proofs.YthfnedbpmdkdjaaDoor.deckStows_holds : Go.Proofs.YthfnedbpmdkdjaaDoor.Rows.DeckStowsCardSaid := Go.Proofs.YthfnedbpmdkdjaaDoor.D.DeckStows.card
