/-
  DeckFewests: for every book the law returns true, and leaves it as it was. Conditions: none but the row's own.
-/
import Derived.Test.YthfnedbpmdkdjaaDoorDeckFewestsA3
import Derived.ArgAppend
import Derived.Below
import Derived.Carry
import Derived.ChangeKeysEq
import Derived.ControlIn
import Derived.Deep.DeepHandedRow
import Derived.Deep.DeepWitnessRowRef
import Derived.Deep.Draws
import Derived.Deep.Quiet
import Derived.Deep.Slices
import Derived.KernelRfl
import Derived.LaidMore
import Derived.Laws.AppendOwn
import Derived.Laws.Cells
import Derived.Laws.CopyRow
import Derived.Laws.IdiomCopy
import Derived.Laws.IdiomRangeMap
import Derived.Laws.OwnMore
import Derived.Laws.Rows
import Derived.MapKept
import Derived.Maps.AppendAt
import Derived.OpenShut
import Derived.OrdersHeld
import Derived.OrdersIn
import Derived.ProofKit
import Derived.RangeFuncLeaves
import Derived.RangeFuncNested
import Derived.RangeFuncOwn
import Derived.SevenTiedAt
import Derived.SizedLaws
import Derived.Stop.Joined
import Derived.Test.YthfnedbpmdkdjaaDoorCards
import Derived.Test.YthfnedbpmdkdjaaDoorProg
import Derived.Test.YthfnedbpmdkdjaaDoorRows
import Derived.Test.YthfnedbpmdkdjaaDoorTie
import Derived.WalkKit
import Derived.WideKeyRuns
namespace Go.Proofs.YthfnedbpmdkdjaaDoor.D
open Go Go.RowKit Go.Proofs.YthfnedbpmdkdjaaDoor.Eng Go.Proofs.YthfnedbpmdkdjaaDoor.Cm
set_option linter.unusedVariables false
set_option linter.unusedSimpArgs false
set_option linter.unusedSectionVars false
def heavyR_c1 (b : DBook) (set : Int) (k1 : Nat) : Int → Bool := fun v1_1 => decide ((k1 : Int) < (b.loads.length : Int))
def heavyR_b1 (b : DBook) (set : Int) (k1 : Nat) : Int → Bd Int Bool := fun v1_1 => .go (bif (memberF set (k1 : Int)) then IntKind.i64.wrap (v1_1 + (b.loads.getD k1 zLoad).w.hi) else v1_1)
def heavyR (b : DBook) (set : Int) : Bool :=
  (match loopR (heavyR_c1 b set) (heavyR_b1 b set) b.loads.length 0 0 with | .brk u1_0 => decide (u1_0 > b.most) | .ret r => r)
theorem heavyR_calls (g0 : Value) (b : DBook) (set : Int) (w : World) (r0 : Reads w g0 3 b.loads encLoad zLoad)  : Calls Tryd.prog 111 #[.agg #[g0, iv b.rule, iv b.most], iv set] w fun e w' => e = .returned (.bool (heavyR b set)) ∧ Below w.heap.size w w' := by
  refine calls_of_WP (cx := cx0 w (vn [g0]) 1) (n := vn [g0]) (vs := [.g [.ref 0, .int .i64 b.rule, .int .i64 b.most], .s (.int .i64 set)]) (hp := [(0, .sl .ro 61 3 b.loads encLoad zLoad)]) (nx := 1) tt_ok Tryd.func111 rfl rfl rfl (by kernel_rfl) (HSat_args (vn_one (by simp [r0.one])) (Nat.le_refl _) ⟨⟨⟨fun _ => rfl, by decide, r0⟩, (Nat.le_of_ble_eq_true rfl)⟩, trivial⟩) (vsOk (by kernel_rfl)) ?_
  have hl0 := Reads.len r0
  refine WP_seq (WP_region (WPO_all tt_ok (by kernel_rfl) ?_))
  refine WP_seq (WP_region (WPO_all tt_ok (by kernel_rfl) ?_))
  refine WP_seq (WP_seq (WP_region (WPO_all tt_ok (by kernel_rfl) ?_)))
  refine WP_loopA (ρ := Bool) (heavyR_c1 b set) (heavyR_b1 b set) b.loads.length 0 (fun k : Nat => (k : Int)) (fun (ci : Int) (zz : Int) => ⟨30, [(6, [], .s (.int .i64 ci)), (5, [], .s (.int .i64 zz)), (2, [], .s (.p 1 0)), (1, [], .s (.int .i64 set))], [(1, .box 24 [.ref 0, .int .i64 b.rule, .int .i64 b.most]), (0, .sl .ro 61 3 b.loads encLoad zLoad)], 2, []⟩) (fun zz : Int => ⟨30, [(5, [], .s (.int .i64 zz)), (2, [], .s (.p 1 0))], [(1, .box 24 [.ref 0, .int .i64 b.rule, .int .i64 b.most]), (0, .sl .ro 61 3 b.loads encLoad zLoad)], 2, []⟩) (fun k zz => True) trivial ⟨0, rfl, Le_sel (ts := [6, 5, 2, 1]) (ids := [1, 0]) (nx := 2) (by kernel_rfl)⟩ ?_ ?_
  · intro k1 v1_1 hn1 hp1 hi1 Q1 hq1 ho1
    refine WP_seq (WP_seq (WP_region (WPO_all tt_ok (by kernel_rfl) ?_)))
    refine WP_cond (decide ((k1 : Int) < (b.loads.length : Int))) (by kernel_rfl) (fun hc1 => ?_) (fun hc1 => ?_)
    rotate_left
    · refine WP_exit ?_
      show Q1 (.exit 0) _
      exact LA_exit hq1 v1_1 (loopR_end hi1 hc1) ⟨k1, hn1, hp1⟩ (Le_sel (ts := [5, 2]) (ids := [1, 0]) (nx := 2) (by kernel_rfl))
    have hc1' := of_decide_eq_true hc1
    have hk1 : k1 < b.loads.length := by omega
    refine WP_skip ?_
    refine WP_seq (WP_block ?_)
    refine WP_seq (WP_region (WPO_run tt_ok 2 (by kernel_rfl) ?_))
    refine CALL 92 [.s (.int .i64 set), .s (.int .i64 (k1 : Int))] (.s (.bool (memberF set (k1 : Int)))) [] (by kernel_rfl) (goes_of (by kernel_rfl)) (by kernel_rfl) (by kernel_rfl) (fun hG nV w h => memberF_calls  set (k1 : Int) w  (by first | assumption | omega)) ?_
    refine WPO_nil ?_
    refine WP_join ((memberF set (k1 : Int))) (fun q => ⟨30, [(5, [], .s (.int .i64 (bif q then IntKind.i64.wrap (v1_1 + (b.loads.getD k1 zLoad).w.hi) else v1_1))), (6, [], .s (.int .i64 (k1 : Int))), (2, [], .s (.p 1 0)), (1, [], .s (.int .i64 set))], [(1, .box 24 [.ref 0, .int .i64 b.rule, .int .i64 b.most]), (0, .sl .ro 61 3 b.loads encLoad zLoad)], 2, []⟩) (by kernel_rfl) (fun hc3 => ?_) (fun hc3 => ?_) ?_
    · refine WP_region (WPO_run tt_ok 4 (by kernel_rfl) ?_)
      refine IX tt_ok (k1 : Int) b.loads.length [] (by kernel_rfl) (fun hG => ⟨by omega, by omega⟩) ?_
      refine WPO_all tt_ok (by kernel_rfl) ?_
      exact Le_sel (ts := [5, 6, 2, 1]) (ids := [1, 0]) (nx := 2) (by kernel_rfl)
    · refine WP_skip ?_
      exact Le_sel (ts := [5, 6, 2, 1]) (ids := [1, 0]) (nx := 2) (by kernel_rfl)
    refine WP_region (WPO_all tt_ok (by kernel_rfl) ?_)
    show Q1 .normal _
    exact LA_go hq1 (ci := IntKind.i64.wrap ((k1 : Int) + 1)) (bif (memberF set (k1 : Int)) then IntKind.i64.wrap (v1_1 + (b.loads.getD k1 zLoad).w.hi) else v1_1) hk1 (by show _ = ((k1 + 1 : Nat) : Int); rw [wrapI (by omega) (by omega)]; omega) (loopR_go hi1 hk1 hc1 (rfl)) trivial (Le_sel (ts := [6, 5, 2, 1]) (ids := [1, 0]) (nx := 2) (by kernel_rfl))
  intro u1_0 hR1 hP1 s' hl
  refine WP_le hl ?_
  clear hl s'
  refine WP_seq (WP_region (WPO_all tt_ok (by kernel_rfl) ?_))
  refine WP_ret ?_
  exact ⟨.s (.bool (decide (u1_0 > b.most))), by kernel_rfl, fun nV w' h => ⟨by rw [show heavyR b set = (decide (u1_0 > b.most)) from by unfold heavyR; simp only [hR1, cond_true, cond_false]]; rfl, h.bel⟩⟩
def subI (set : Int) (k : Nat) : Int := (IntKind.i64.wrap (set - (IntKind.i64.wrap (1 * 2 ^ (min (k : Int).toNat IntKind.i64.bits)))))
def StowC (b : DBook) (R : Nat → Int → Prop) (F : List Place → Int → List Place × Bool) : Prop := ∀ (sv tv : Value) (on : List Place) (set : Int) (w : World), R on.length set → (∀ x ∈ on, 0 ≤ x.load ∧ x.load < b.loads.length) → Reads w sv 3 b.loads encLoad zLoad → Reads w tv 2 on encPlace zPlace →
    Calls Tryd.prog 110 #[.agg #[sv, iv b.rule, iv b.most], iv set, tv] w fun e w' => ∃ v, e = .returned (.tuple #[v, .bool (F on set).2]) ∧ Below w.heap.size w w' ∧ Reads w' v 2 (F on set).1 encPlace zPlace ∧ (∀ g, vblk v = some g → vblk tv = some g ∨ (w.heap.size ≤ g ∧ g < w'.heap.size))
def stowS_c2 (b : DBook) (F : List Place → Int → List Place × Bool) (on : List Place) (set : Int) (k1 : Nat) (k2 : Nat) : Unit → Bool := fun _ => decide ((k2 : Int) < 3)
def stowS_b2 (b : DBook) (F : List Place → Int → List Place × Bool) (on : List Place) (set : Int) (k1 : Nat) (k2 : Nat) : Unit → Bd Unit (List Place × Bool) := fun _ => (bif (!(memberF set (k1 : Int))) || (!(memberF (b.loads.getD k1 zLoad).lanes (k2 : Int))) then .go () else (bif decide ((levelR b ((([] : List Place) ++ on) ++ ([(⟨(k1 : Int), (k2 : Int)⟩ : Place)]))) < 2) then .go () else (bif (F ((([] : List Place) ++ on) ++ ([(⟨(k1 : Int), (k2 : Int)⟩ : Place)])) (IntKind.i64.wrap (set - (IntKind.i64.wrap (1 * 2 ^ (min (k1 : Int).toNat IntKind.i64.bits)))))).2 then .ret ((F ((([] : List Place) ++ on) ++ ([(⟨(k1 : Int), (k2 : Int)⟩ : Place)])) (IntKind.i64.wrap (set - (IntKind.i64.wrap (1 * 2 ^ (min (k1 : Int).toNat IntKind.i64.bits)))))).1, true) else .go ())))
def stowS_c1 (b : DBook) (F : List Place → Int → List Place × Bool) (on : List Place) (set : Int) (k1 : Nat) : Unit → Bool := fun _ => decide ((k1 : Int) < (b.loads.length : Int))
def stowS_b1 (b : DBook) (F : List Place → Int → List Place × Bool) (on : List Place) (set : Int) (k1 : Nat) : Unit → Bd Unit (List Place × Bool) := fun _ => (match loopR (stowS_c2 b F on set k1) (stowS_b2 b F on set k1) 3 0 () with | .brk () => .go () | .ret r => .ret r)
def stowS (b : DBook) (F : List Place → Int → List Place × Bool) (on : List Place) (set : Int) : List Place × Bool :=
  (bif set == 0 then (on, true) else (match loopR (stowS_c1 b F on set) (stowS_b1 b F on set) b.loads.length 0 () with | .brk () => ([], false) | .ret r => r))
theorem stowS_calls (b : DBook) (F : List Place → Int → List Place × Bool) (R : Nat → Int → Prop) (on : List Place) (set : Int) (sv tv : Value) (w : World) (rb : Reads w sv 3 b.loads encLoad zLoad) (rd : Reads w tv 2 on encPlace zPlace) (hb5 : b.loads.length ≤ 5) (hol : on.length ≤ 10) (hin : ∀ x ∈ on, 0 ≤ x.load ∧ x.load < b.loads.length) (hF : StowC b R F) (hR : ∀ k : Nat, k < b.loads.length → memberF set (k : Int) = true → R (on.length + 1) (subI set k)) : Calls Tryd.prog 110 #[.agg #[sv, iv b.rule, iv b.most], iv set, tv] w fun e w' => ∃ v, e = .returned (.tuple #[v, .bool (stowS b F on set).2]) ∧ Below w.heap.size w w' ∧ Reads w' v 2 (stowS b F on set).1 encPlace zPlace ∧ (∀ g, vblk v = some g → vblk tv = some g ∨ (w.heap.size ≤ g ∧ g < w'.heap.size)) := by
  refine calls_of_WP (cx := cx0 w (vn [sv, tv]) 2) (n := vn [sv, tv]) (vs := [.g [.ref 0, .int .i64 b.rule, .int .i64 b.most], .s (.int .i64 set), .s (.ref 1)]) (hp := [(0, .sl .ro 61 3 b.loads encLoad zLoad), (1, .sl .ro 65 2 on encPlace zPlace)]) (nx := 2) tt_ok Tryd.func110 rfl rfl rfl (by kernel_rfl) (HSat_args (vn_one (by simp [rb.one, rd.one])) (by decide) ⟨⟨⟨fun _ => rfl, by decide, rb⟩, (Nat.le_of_ble_eq_true rfl)⟩, ⟨⟨fun _ => rfl, by decide, rd⟩, (Nat.le_of_ble_eq_true rfl)⟩, trivial⟩) (vsOk (by kernel_rfl)) ?_
  have hmr : ∀ (k l : Nat), k < b.loads.length → ∀ x ∈ (([] : List Place) ++ on) ++ [(⟨(k : Int), (l : Int)⟩ : Place)], 0 ≤ x.load ∧ x.load < b.loads.length := by
    intro k l hk x hx
    rcases List.mem_append.1 hx with hx | hx
    · exact hin x (by simpa using hx)
    · rw [List.mem_singleton.1 hx]; exact ⟨by show (0 : Int) ≤ (k : Int); omega, by show (k : Int) < _; omega⟩
  have hR1 : ∀ (k : Nat) (x : Place), k < b.loads.length → ((!(memberF set (k : Int))) || (!(memberF (b.loads.getD k zLoad).lanes x.lane))) = false → R ((([] : List Place) ++ on) ++ [x]).length (subI set k) := by
    intro k x h1 h2
    have := hR k h1 (by simpa using (Bool.or_eq_false_iff.1 h2).1)
    rw [List.length_append, List.nil_append]; exact this
  refine WP_seq (WP_region (WPO_all tt_ok (by kernel_rfl) ?_))
  refine WP_seq (WP_seq (WP_region (WPO_all tt_ok (by kernel_rfl) ?_)))
  refine WP_cond (set == 0) (by kernel_rfl) (fun hc2 => ?_) (fun hc2 => ?_)
  · have hc2' := hc2; try simp only [Bool.and_eq_true, Bool.or_eq_true, Bool.and_eq_false_iff, Bool.or_eq_false_iff, Bool.not_eq_true', Bool.not_eq_false', decide_eq_true_eq, decide_eq_false_iff_not, beq_iff_eq, beq_eq_false_iff_ne, bne_iff_ne, bne_eq_false_iff_eq, ne_eq] at hc2'
    refine WP_seq (WP_region (WPO_all tt_ok (by kernel_rfl) ?_))
    refine WP_ret ?_
    exact ⟨.t [(false, [.ref 1]), (false, [.bool true])], by kernel_rfl, fun nV w' h => ⟨nV 1, by rw [show stowS b F on set = (on, true) from by unfold stowS; simp only [hc2, cond_true, cond_false]]; rfl, h.bel, by rw [show stowS b F on set = (on, true) from by unfold stowS; simp only [hc2, cond_true, cond_false]]; exact h.reads (id := 1) (kd := .ro) (e := 65) (by kernel_rfl), fun g hg => .inl (by have e2 : nV 1 = tv := h.ini 1 (by show 1 < 2; decide); rw [← e2]; exact hg)⟩⟩
  have hc2' := hc2; try simp only [Bool.and_eq_true, Bool.or_eq_true, Bool.and_eq_false_iff, Bool.or_eq_false_iff, Bool.not_eq_true', Bool.not_eq_false', decide_eq_true_eq, decide_eq_false_iff_not, beq_iff_eq, beq_eq_false_iff_ne, bne_iff_ne, bne_eq_false_iff_eq, ne_eq] at hc2'
  refine WP_skip ?_
  refine WP_seq (WP_seq (WP_region (WPO_all tt_ok (by kernel_rfl) ?_)))
  refine WP_loopA (ρ := List Place × Bool) (stowS_c1 b F on set) (stowS_b1 b F on set) b.loads.length () (fun k : Nat => (k : Int)) (fun (ci : Int) (zz : Unit) => ⟨66, [(8, [], .s (.int .i64 ci)), (3, [], .s (.p 2 0)), (1, [], .s (.int .i64 set)), (2, [], .s (.ref 1))], [(2, .box 24 [.ref 0, .int .i64 b.rule, .int .i64 b.most]), (0, .sl .ro 61 3 b.loads encLoad zLoad), (1, .sl .ro 65 2 on encPlace zPlace)], 3, []⟩) (fun zz : Unit => ⟨66, [], [(2, .box 24 [.ref 0, .int .i64 b.rule, .int .i64 b.most]), (0, .sl .ro 61 3 b.loads encLoad zLoad), (1, .sl .ro 65 2 on encPlace zPlace)], 3, []⟩) (fun k zz => True) trivial ⟨0, rfl, Le_sel (ts := [8, 3, 1, 2]) (ids := [2, 0, 1]) (nx := 3) (by kernel_rfl)⟩ ?_ ?_
  · intro k1 zz hn1 hp1 hi1 Q1 hq1 ho1
    refine WP_seq (WP_seq (WP_region (WPO_all tt_ok (by kernel_rfl) ?_)))
    refine WP_cond (decide ((k1 : Int) < (b.loads.length : Int))) (by kernel_rfl) (fun hc3 => ?_) (fun hc3 => ?_)
    rotate_left
    · refine WP_exit ?_
      show Q1 (.exit 0) _
      exact LA_exit hq1 () (loopR_end hi1 hc3) ⟨k1, hn1, hp1⟩ (Le_sel (ts := []) (ids := [2, 0, 1]) (nx := 3) (by kernel_rfl))
    have hc3' := of_decide_eq_true hc3
    have hk1 : k1 < b.loads.length := by omega
    refine WP_skip ?_
    refine WP_seq (WP_block ?_)
    refine WP_seq (WP_region (WPO_all tt_ok (by kernel_rfl) ?_))
    refine WP_loopA (ρ := List Place × Bool) (stowS_c2 b F on set k1) (stowS_b2 b F on set k1) 3 () (fun k : Nat => (k : Int)) (fun (ci : Int) (zz : Unit) => ⟨66, [(9, [], .s (.int .i64 ci)), (8, [], .s (.int .i64 (k1 : Int))), (3, [], .s (.p 2 0)), (1, [], .s (.int .i64 set)), (2, [], .s (.ref 1))], [(2, .box 24 [.ref 0, .int .i64 b.rule, .int .i64 b.most]), (0, .sl .ro 61 3 b.loads encLoad zLoad), (1, .sl .ro 65 2 on encPlace zPlace)], 3, []⟩) (fun zz : Unit => ⟨66, [(8, [], .s (.int .i64 (k1 : Int))), (3, [], .s (.p 2 0)), (1, [], .s (.int .i64 set)), (2, [], .s (.ref 1))], [(2, .box 24 [.ref 0, .int .i64 b.rule, .int .i64 b.most]), (0, .sl .ro 61 3 b.loads encLoad zLoad), (1, .sl .ro 65 2 on encPlace zPlace)], 3, []⟩) (fun k zz => True) trivial ⟨0, rfl, Le_sel (ts := [9, 8, 3, 1, 2]) (ids := [2, 0, 1]) (nx := 3) (by kernel_rfl)⟩ ?_ ?_
    · intro k2 zz hn2 hp2 hi2 Q2 hq2 ho2
      refine WP_seq (WP_seq (WP_region (WPO_all tt_ok (by kernel_rfl) ?_)))
      refine WP_cond (decide ((k2 : Int) < 3)) (by kernel_rfl) (fun hc4 => ?_) (fun hc4 => ?_)
      rotate_left
      · refine WP_exit ?_
        show Q2 (.exit 2) _
        exact LA_exit hq2 () (loopR_end hi2 hc4) ⟨k2, hn2, hp2⟩ (Le_sel (ts := [8, 3, 1, 2]) (ids := [2, 0, 1]) (nx := 3) (by kernel_rfl))
      have hc4' := of_decide_eq_true hc4
      have hk2 : k2 < 3 := by omega
      refine WP_skip ?_
      refine WP_seq (WP_block ?_)
      refine WP_seq (WP_seq (WP_region (WPO_run tt_ok 2 (by kernel_rfl) ?_)))
      refine CALL 92 [.s (.int .i64 set), .s (.int .i64 (k1 : Int))] (.s (.bool (memberF set (k1 : Int)))) [] (by kernel_rfl) (goes_of (by kernel_rfl)) (by kernel_rfl) (by kernel_rfl) (fun hG nV w h => memberF_calls  set (k1 : Int) w  (by first | assumption | omega | exact hmr k1 k2 hk1)) ?_
      refine WPO_run tt_ok 5 (by kernel_rfl) ?_
      refine IX tt_ok (k1 : Int) b.loads.length [(!(memberF set (k1 : Int)), false)] (by kernel_rfl) (fun hG => (by (try simp only [AllEq, and_true, Bool.and_eq_true, Bool.or_eq_true, Bool.not_eq_true', decide_eq_true_eq, decide_eq_false_iff_not] at hG); constructor <;> omega)) ?_
      refine WPO_run tt_ok 3 (by kernel_rfl) ?_
      refine CALL 92 [.s (.int .i64 (b.loads.getD k1 zLoad).lanes), .s (.int .i64 (k2 : Int))] (.s (.bool (memberF (b.loads.getD k1 zLoad).lanes (k2 : Int)))) [(!(memberF set (k1 : Int)), false)] (by kernel_rfl) (goes_of (by kernel_rfl)) (by kernel_rfl) (by kernel_rfl) (fun hG nV w h => memberF_calls  (b.loads.getD k1 zLoad).lanes (k2 : Int) w  (by first | assumption | omega | exact hmr k1 k2 hk1)) ?_
      refine WPO_all tt_ok (by kernel_rfl) ?_
      refine WP_cond ((!(memberF set (k1 : Int))) || (!(memberF (b.loads.getD k1 zLoad).lanes (k2 : Int)))) (by kernel_rfl) (fun hc6 => ?_) (fun hc6 => ?_)
      · have hc6' := hc6; try simp only [Bool.and_eq_true, Bool.or_eq_true, Bool.and_eq_false_iff, Bool.or_eq_false_iff, Bool.not_eq_true', Bool.not_eq_false', decide_eq_true_eq, decide_eq_false_iff_not, beq_iff_eq, beq_eq_false_iff_ne, bne_iff_ne, bne_eq_false_iff_eq, ne_eq] at hc6'
        refine WP_exit ?_
        refine WP_region (WPO_all tt_ok (by kernel_rfl) ?_)
        show Q2 .normal _
        exact LA_go hq2 (ci := IntKind.i64.wrap ((k2 : Int) + 1)) () hk2 (by show _ = ((k2 + 1 : Nat) : Int); rw [wrapI (by omega) (by omega)]; omega) (loopR_go hi2 hk2 hc4 (by unfold stowS_b2; simp only [hc6, cond_true, cond_false])) trivial (Le_sel (ts := [9, 8, 3, 1, 2]) (ids := [2, 0, 1]) (nx := 3) (by kernel_rfl))
      have hc6' := hc6; try simp only [Bool.and_eq_true, Bool.or_eq_true, Bool.and_eq_false_iff, Bool.or_eq_false_iff, Bool.not_eq_true', Bool.not_eq_false', decide_eq_true_eq, decide_eq_false_iff_not, beq_iff_eq, beq_eq_false_iff_ne, bne_iff_ne, bne_eq_false_iff_eq, ne_eq] at hc6'
      refine WP_skip ?_
      refine WP_seq (WP_region (LIT tt_ok (by kernel_rfl) ?_))
      refine LITSL 3 65 0 2 [] ([] : List Place) encPlace zPlace (by kernel_rfl) rfl (fun _ => rfl) (fun n => rfl) ?_
      refine WPO_run tt_ok 1 (by kernel_rfl) ?_
      refine APPS tt_ok (.s (.ref 3)) (.s (.ref 1)) 25 65 (some 44) 2 ([] : List Place) on encPlace zPlace (by kernel_rfl) (by kernel_rfl) (by kernel_rfl) (by kernel_rfl) (.inr ⟨3, rfl, (by kernel_rfl)⟩) ⟨1, .ro, rfl, (by kernel_rfl)⟩ (fun y => rfl) (fun y => List.all_eq_true.1 rfl) (fun i hi => (by have hby : (tyL tt 65).map (·.bytes) = some 16 := (by kernel_rfl); rw [hi] at hby; simp only [Option.map_some, Option.some.injEq] at hby; rw [hby]; simp only [List.length_append, List.length_cons, List.length_nil]; omega)) ?_
      refine WPO_run tt_ok 3 (by kernel_rfl) ?_
      refine LIT tt_ok (by kernel_rfl) ?_
      refine LITSL 5 65 1 2 [.int .i64 (k1 : Int), .int .i64 (k2 : Int)] [(⟨(k1 : Int), (k2 : Int)⟩ : Place)] encPlace zPlace (by kernel_rfl) rfl (fun _ => rfl) (fun n => rfl) ?_
      refine APP tt_ok (.s (.ref 4)) (.s (.ref 5)) 25 65 (some 49) 2 (([] : List Place) ++ on) ([(⟨(k1 : Int), (k2 : Int)⟩ : Place)]) encPlace zPlace (by kernel_rfl) (by kernel_rfl) (by kernel_rfl) (by kernel_rfl) (.inr (.inl ⟨4, rfl, (by kernel_rfl)⟩)) (.inr ⟨5, .own, rfl, (by kernel_rfl), (by simp only [List.length_cons, List.length_nil]; omega)⟩) (by simp) (fun y => rfl) (fun y => List.all_eq_true.1 rfl) (fun i hi => (by have hby : (tyL tt 65).map (·.bytes) = some 16 := (by kernel_rfl); rw [hi] at hby; simp only [Option.map_some, Option.some.injEq] at hby; rw [hby]; simp only [List.length_append, List.length_cons, List.length_nil]; omega)) ?_
      refine WPO_all tt_ok (by kernel_rfl) ?_
      refine WP_seq (WP_seq (WP_region (WPO_run tt_ok 2 (by kernel_rfl) ?_)))
      refine CALL 109 [.g [.ref 0, .int .i64 b.rule, .int .i64 b.most], .s (.ref 6)] (.s (.int .i64 (levelR b ((([] : List Place) ++ on) ++ ([(⟨(k1 : Int), (k2 : Int)⟩ : Place)]))))) [] (by kernel_rfl) (goes_of (by kernel_rfl)) (by kernel_rfl) (by kernel_rfl) (fun hG nV w h => levelR_calls (nV 0) (nV 6) b ((([] : List Place) ++ on) ++ ([(⟨(k1 : Int), (k2 : Int)⟩ : Place)])) w (h.reads (id := 0) (kd := .ro) (e := 61) (by kernel_rfl)) (h.reads (id := 6) (kd := .own) (e := 65) (by kernel_rfl)) (by first | assumption | omega | exact hmr k1 k2 hk1)) ?_
      refine WPO_all tt_ok (by kernel_rfl) ?_
      refine WP_cond (decide ((levelR b ((([] : List Place) ++ on) ++ ([(⟨(k1 : Int), (k2 : Int)⟩ : Place)]))) < 2)) (by kernel_rfl) (fun hc8 => ?_) (fun hc8 => ?_)
      · have hc8' := of_decide_eq_true hc8
        refine WP_exit ?_
        refine WP_region (WPO_all tt_ok (by kernel_rfl) ?_)
        show Q2 .normal _
        exact LA_go hq2 (ci := IntKind.i64.wrap ((k2 : Int) + 1)) () hk2 (by show _ = ((k2 + 1 : Nat) : Int); rw [wrapI (by omega) (by omega)]; omega) (loopR_go hi2 hk2 hc4 (by unfold stowS_b2; simp only [hc6, hc8, cond_true, cond_false])) trivial (Le_sel (ts := [9, 8, 3, 1, 2]) (ids := [2, 0, 1]) (nx := 3) (by kernel_rfl))
      have hc8' := of_decide_eq_false hc8
      refine WP_skip ?_
      refine WP_seq (WP_drawH [6] (by kernel_rfl) (by kernel_rfl) ?_)
      refine H_run tt_ok [0, 1, 2] (f' := 9) (by kernel_rfl) (by kernel_rfl) (by kernel_rfl) ?_
      refine H_BIN 3 .shl 3 (.const (.int .i64 1)) (.tmp 57) (.s (.int .i64 1)) (.s (.int .i64 (k1 : Int))) (.s (.int .i64 (IntKind.i64.wrap (1 * 2 ^ (min (k1 : Int).toNat IntKind.i64.bits))))) [] (by kernel_rfl) (by kernel_rfl) (by kernel_rfl) (fun _ _ => BinOk_shl (by omega)) (by kernel_rfl) (by kernel_rfl) ?_
      refine H_run tt_ok [4, 5] (f' := 6) (by kernel_rfl) (by kernel_rfl) (by kernel_rfl) ?_
      refine H_step 6 (by kernel_rfl) (by kernel_rfl) (fun hfz cx' hx1 hx2 => ?_)
      refine CALLTK 110 [.g [.ref 0, .int .i64 b.rule, .int .i64 b.most], .s (.int .i64 (IntKind.i64.wrap (set - (IntKind.i64.wrap (1 * 2 ^ (min (k1 : Int).toNat IntKind.i64.bits)))))), .s (.ref 6)] (fun sv4 => .t [(false, [.v sv4]), (false, [.bool (F ((([] : List Place) ++ on) ++ ([(⟨(k1 : Int), (k2 : Int)⟩ : Place)])) (IntKind.i64.wrap (set - (IntKind.i64.wrap (1 * 2 ^ (min (k1 : Int).toNat IntKind.i64.bits)))))).2])]) 6 65 2 ((([] : List Place) ++ on) ++ ([(⟨(k1 : Int), (k2 : Int)⟩ : Place)])) encPlace zPlace 2 (F ((([] : List Place) ++ on) ++ ([(⟨(k1 : Int), (k2 : Int)⟩ : Place)])) (IntKind.i64.wrap (set - (IntKind.i64.wrap (1 * 2 ^ (min (k1 : Int).toNat IntKind.i64.bits)))))).1 encPlace zPlace (by kernel_rfl) (by kernel_rfl) (goes_of (by kernel_rfl)) (fun _ => (by kernel_rfl)) (fun _ => (by kernel_rfl)) (fun _ _ _ => rfl) (fun nV w h => hF (nV 0) (nV 6) _ _ w (hR1 k1 _ hk1 (by assumption)) (hmr k1 k2 hk1) (h.reads (id := 0) (kd := .ro) (e := 61) (by kernel_rfl)) (h.reads (id := 6) (kd := .own) (e := 65) (by kernel_rfl))) (fun sv4 => ?_)
      refine WPO_end (by kernel_rfl) ⟨rfl, (hfz.fnds [5, 2, 0, 1] (by kernel_rfl) ⟨by kernel_rfl, by kernel_rfl, by kernel_rfl, by kernel_rfl, trivial⟩ (by kernel_rfl)), ?_⟩
      refine H_run tt_ok [7, 8, 9, 10, 11] (f' := 0) (by kernel_rfl) (by kernel_rfl) (by kernel_rfl) ?_
      refine H_done (by kernel_rfl) ?_
      refine WP_seq (WP_region (WPO_all tt_ok (by kernel_rfl) ?_))
      refine WP_cond ((F ((([] : List Place) ++ on) ++ ([(⟨(k1 : Int), (k2 : Int)⟩ : Place)])) (IntKind.i64.wrap (set - (IntKind.i64.wrap (1 * 2 ^ (min (k1 : Int).toNat IntKind.i64.bits)))))).2) (by kernel_rfl) (fun hc10 => ?_) (fun hc10 => ?_)
      · refine WP_seq (WP_region (WPO_all tt_ok (by kernel_rfl) ?_))
        refine WP_ret ?_
        show Q2 .ret _
        refine LA_ret hq2 ?_
        show Q1 .ret _
        refine LA_ret hq1 ?_
        have he11 := loopR_ret (r := ((F ((([] : List Place) ++ on) ++ ([(⟨(k1 : Int), (k2 : Int)⟩ : Place)])) (IntKind.i64.wrap (set - (IntKind.i64.wrap (1 * 2 ^ (min (k1 : Int).toNat IntKind.i64.bits)))))).1, true)) hi2 hk2 hc4 (by unfold stowS_b2; simp only [hc6, hc8, hc10, cond_true, cond_false])
        have he12 := loopR_ret (r := ((F ((([] : List Place) ++ on) ++ ([(⟨(k1 : Int), (k2 : Int)⟩ : Place)])) (IntKind.i64.wrap (set - (IntKind.i64.wrap (1 * 2 ^ (min (k1 : Int).toNat IntKind.i64.bits)))))).1, true)) hi1 hk1 hc3 (by unfold stowS_b1; simp only [he11, cond_true, cond_false])
        exact ⟨.t [(false, [.v sv4]), (false, [.bool true])], by kernel_rfl, fun nV w' h => ⟨sv4, by rw [show stowS b F on set = ((F ((([] : List Place) ++ on) ++ ([(⟨(k1 : Int), (k2 : Int)⟩ : Place)])) (IntKind.i64.wrap (set - (IntKind.i64.wrap (1 * 2 ^ (min (k1 : Int).toNat IntKind.i64.bits)))))).1, true) from by unfold stowS; simp only [hc2, he12, cond_true, cond_false]]; rfl, h.bel, by rw [show stowS b F on set = ((F ((([] : List Place) ++ on) ++ ([(⟨(k1 : Int), (k2 : Int)⟩ : Place)])) (IntKind.i64.wrap (set - (IntKind.i64.wrap (1 * 2 ^ (min (k1 : Int).toNat IntKind.i64.bits)))))).1, true) from by unfold stowS; simp only [hc2, he12, cond_true, cond_false]]; exact (slE_lt (id := 7) (v := sv4) (sz := 2) (li := (F ((([] : List Place) ++ on) ++ ([(⟨(k1 : Int), (k2 : Int)⟩ : Place)])) (IntKind.i64.wrap (set - (IntKind.i64.wrap (1 * 2 ^ (min (k1 : Int).toNat IntKind.i64.bits)))))).1) (enc := encPlace) (z := zPlace) h (by kernel_rfl)).1, fun g hg => .inr ((slE_lt (id := 7) (v := sv4) (sz := 2) (li := (F ((([] : List Place) ++ on) ++ ([(⟨(k1 : Int), (k2 : Int)⟩ : Place)])) (IntKind.i64.wrap (set - (IntKind.i64.wrap (1 * 2 ^ (min (k1 : Int).toNat IntKind.i64.bits)))))).1) (enc := encPlace) (z := zPlace) h (by kernel_rfl)).2 g hg)⟩⟩
      refine WP_skip ?_
      refine WP_region (WPO_all tt_ok (by kernel_rfl) ?_)
      show Q2 .normal _
      exact LA_go hq2 (ci := IntKind.i64.wrap ((k2 : Int) + 1)) () hk2 (by show _ = ((k2 + 1 : Nat) : Int); rw [wrapI (by omega) (by omega)]; omega) (loopR_go hi2 hk2 hc4 (by unfold stowS_b2; simp only [hc6, hc8, hc10, cond_true, cond_false])) trivial (Le_sel (ts := [9, 8, 3, 1, 2]) (ids := [2, 0, 1]) (nx := 3) (by kernel_rfl))
    intro zz hR2 hP2 s' hl
    refine WP_le hl ?_
    clear hl s'
    refine WP_region (WPO_all tt_ok (by kernel_rfl) ?_)
    show Q1 .normal _
    exact LA_go hq1 (ci := IntKind.i64.wrap ((k1 : Int) + 1)) () hk1 (by show _ = ((k1 + 1 : Nat) : Int); rw [wrapI (by omega) (by omega)]; omega) (loopR_go hi1 hk1 hc3 (by unfold stowS_b1; simp only [hR2, cond_true, cond_false])) trivial (Le_sel (ts := [8, 3, 1, 2]) (ids := [2, 0, 1]) (nx := 3) (by kernel_rfl))
  intro zz hR1 hP1 s' hl
  refine WP_le hl ?_
  clear hl s'
  refine WP_seq (WP_region (WPO_all tt_ok (by kernel_rfl) ?_))
  refine WP_ret ?_
  exact ⟨.t [(false, [.v (.slice none 0 0)]), (false, [.bool false])], by kernel_rfl, fun nV w' h => ⟨.slice none 0 0, by rw [show stowS b F on set = ([], false) from by unfold stowS; simp only [hc2, hR1, cond_true, cond_false]]; rfl, h.bel, by rw [show stowS b F on set = ([], false) from by unfold stowS; simp only [hc2, hR1, cond_true, cond_false]]; exact reads_nil, fun g hg => by cases hg⟩⟩
end Go.Proofs.YthfnedbpmdkdjaaDoor.D
namespace Go.Proofs.YthfnedbpmdkdjaaDoor.D
open Go Go.RowKit Go.Proofs.YthfnedbpmdkdjaaDoor.Eng Go.Proofs.YthfnedbpmdkdjaaDoor.Cm
set_option linter.unusedVariables false
set_option linter.unusedSimpArgs false
set_option linter.unusedSectionVars false
def stowRD (b : DBook) : Nat → List Place → Int → List Place × Bool
  | 0 => stowS b fun _ _ => ([], false)
  | r + 1 => stowS b (stowRD b r)
theorem sub_all : ((List.range 32).all fun s : Nat => (List.range 5).all fun k : Nat => !(memberF (s : Int) (k : Int)) || (subI (s : Int) k == offI (s : Int) k && !(bitI (s : Int) k == 0))) = true := by kernel_rfl
theorem sub_spec {set : Int} {k : Nat} (h : 0 ≤ set ∧ set < 32) (hk : k < 5) (hb : memberF set (k : Int) = true) : subI set k = offI set k ∧ (bitI set k == 0) = false := by
  have h1 := List.all_eq_true.1 (List.all_eq_true.1 sub_all set.toNat (List.mem_range.2 (by omega))) k (List.mem_range.2 hk)
  rw [show ((set.toNat : Nat) : Int) = set by omega, hb] at h1
  simp only [Bool.not_true, Bool.false_or, Bool.and_eq_true, beq_iff_eq, Bool.not_eq_true'] at h1
  exact ⟨h1.1, h1.2⟩
theorem stowRD_ok {b : DBook} (hb5 : b.loads.length ≤ 5) : ∀ r : Nat, StowC b (fun n set => n + r ≤ 10 ∧ LeftOk r set) (stowRD b r) := by
  intro r
  induction r with
  | zero =>
    intro sv tv on set w hR hin rb rd
    refine stowS_calls b (fun _ _ => ([], false)) (fun _ _ => False) on set sv tv w rb rd hb5 (by omega) hin (fun _ _ _ _ _ h => h.elim) (fun k hk hb => ?_)
    exact absurd (card_pos (by omega) (sub_spec hR.2.1 (by omega) hb).2) (by have := hR.2.2; omega)
  | succ r ih =>
    intro sv tv on set w hR hin rb rd
    refine stowS_calls b (stowRD b r) (fun n set => n + r ≤ 10 ∧ LeftOk r set) on set sv tv w rb rd hb5 (by omega) hin ih (fun k hk hb => ?_)
    obtain ⟨h1, h2⟩ := sub_spec hR.2.1 (by omega) hb
    have h3 := off_spec hR.2.1 (by omega) h2
    rw [h1]
    exact ⟨by omega, h3.1, by have := hR.2.2; omega⟩
theorem stow_top {b : DBook} (hb5 : b.loads.length ≤ 5) (sv : Value) (set : Int) (w : World) (hset : 0 ≤ set ∧ set < 32) (rb : Reads w sv 3 b.loads encLoad zLoad) :
    Calls Tryd.prog 110 #[.agg #[sv, iv b.rule, iv b.most], iv set, .slice none 0 0] w fun e w' => ∃ v, e = .returned (.tuple #[v, .bool (stowRD b 5 [] set).2]) ∧ Below w.heap.size w w' ∧ Reads w' v 2 (stowRD b 5 [] set).1 encPlace zPlace ∧ (∀ g, vblk v = some g → w.heap.size ≤ g ∧ g < w'.heap.size) :=
  (stowRD_ok hb5 5 sv (.slice none 0 0) [] set w ⟨by simp, left5 hset⟩ (fun x hx => by cases hx) rb reads_nil).mono fun e w' ⟨v, h1, h2, h3, h4⟩ => ⟨v, h1, h2, h3, fun g hg => (h4 g hg).resolve_left (fun h => by cases h)⟩
theorem checkR_five {b : DBook} (h : checkR b = 0) : b.loads.length ≤ 5 := by
  unfold checkR at h
  rw [loopR_all (fun k => ((validF (b.loads.getD k zLoad).w 1 60) && (decide ((IntKind.i64.wrap ((b.loads.getD k zLoad).w.hi - (b.loads.getD k zLoad).w.lo)) ≤ 4))) && (insideF (b.loads.getD k zLoad).lanes 1 7)) (fun k v hk => by simp only [checkR_c1]; rw [decide_eq_true (by omega), Bool.and_true]) (fun k hk => rfl)] at h
  simp only at h
  cases hc : insideF (b.loads.length : Int) 1 5 with
  | false => rw [hc] at h; simp at h
  | true => simp only [insideF, Bool.and_eq_true, decide_eq_true_eq] at hc; omega
theorem pow_wrap {n : Nat} (h : n ≤ 5) : IntKind.i64.wrap (1 * 2 ^ (min (n : Int).toNat IntKind.i64.bits)) = ((2 ^ n : Nat) : Int) ∧ (2 : Nat) ^ n ≤ 32 := by
  have : n = 0 ∨ n = 1 ∨ n = 2 ∨ n = 3 ∨ n = 4 ∨ n = 5 := by omega
  rcases this with rfl | rfl | rfl | rfl | rfl | rfl <;> decide
def setsR_c1 (b : DBook) (k1 : Nat) : (List Bool) → Bool := fun v1_1 => decide ((k1 : Int) < (IntKind.i64.wrap (1 * 2 ^ (min (b.loads.length : Int).toNat IntKind.i64.bits))))
def setsR_b1 (b : DBook) (k1 : Nat) : (List Bool) → Bd (List Bool) (List Bool) := fun v1_1 => .go (v1_1 ++ ([(stowRD b 5 [] (k1 : Int)).2 && (!(heavyR b (k1 : Int)))]))
def setsR (b : DBook) : (List Bool) :=
  (match loopR (setsR_c1 b) (setsR_b1 b) (2 ^ b.loads.length) 0 ([]) with | .brk u1_0 => u1_0 | .ret r => r)
theorem setsR_calls (g0 : Value) (b : DBook) (w : World) (r0 : Reads w g0 3 b.loads encLoad zLoad) (hb5 : b.loads.length ≤ 5) : Calls Tryd.prog 113 #[.agg #[g0, iv b.rule, iv b.most]] w fun e w' => ∃ v0, e = .returned (v0) ∧ Below w.heap.size w w' ∧ w'.ownsRow w.heap.size 4 1 v0 (setsR b).length (flat (setsR b) encBl) := by
  refine calls_of_WP (cx := cx0 w (vn [g0]) 1) (n := vn [g0]) (vs := [.g [.ref 0, .int .i64 b.rule, .int .i64 b.most]]) (hp := [(0, .sl .ro 61 3 b.loads encLoad zLoad)]) (nx := 1) tt_ok Tryd.func113 rfl rfl rfl (by kernel_rfl) (HSat_args (vn_one (by simp [r0.one])) (Nat.le_refl _) ⟨⟨⟨fun _ => rfl, by decide, r0⟩, (Nat.le_of_ble_eq_true rfl)⟩, trivial⟩) (vsOk (by kernel_rfl)) ?_
  have hl0 := Reads.len r0
  have hpw := (pow_wrap hb5).1
  have hpl := (pow_wrap hb5).2
  refine WP_seq (WP_region (WPO_all tt_ok (by kernel_rfl) ?_))
  refine WP_seq (WP_region (WPO_all tt_ok (by kernel_rfl) ?_))
  refine WP_seq (WP_seq (WP_region (WPO_all tt_ok (by kernel_rfl) ?_)))
  refine WP_loopA (ρ := (List Bool)) (setsR_c1 b) (setsR_b1 b) (2 ^ b.loads.length) ([]) (fun k : Nat => (k : Int)) (fun (ci : Int) (zz : (List Bool)) => ⟨32, [(4, [], .s (.int .i64 ci)), (3, [], .s (.ref 2)), (1, [], .s (.p 1 0))], [(2, .sl .own 4 1 zz encBl false), (1, .box 24 [.ref 0, .int .i64 b.rule, .int .i64 b.most]), (0, .sl .ro 61 3 b.loads encLoad zLoad)], 3, []⟩) (fun zz : (List Bool) => ⟨32, [(3, [], .s (.ref 2))], [(2, .sl .own 4 1 zz encBl false), (1, .box 24 [.ref 0, .int .i64 b.rule, .int .i64 b.most]), (0, .sl .ro 61 3 b.loads encLoad zLoad)], 3, []⟩) (fun (k1 : Nat) (zz : (List Bool)) => zz.length = k1) rfl ⟨0, rfl, Le.trans (Le_nilT [3] 4 1 encBl false (fun _ => rfl)) (Le_sel (ts := [4, 3, 1]) (ids := [2, 1, 0]) (nx := 3) (by kernel_rfl))⟩ ?_ ?_
  · intro k1 v1_1 hn1 hp1 hi1 Q1 hq1 ho1
    replace hp1 : v1_1.length = k1 := hp1
    refine WP_seq (WP_seq (WP_region (WPO_run tt_ok 4 (by kernel_rfl) ?_)))
    refine BIN .shl 3 (.const (.int .i64 1)) (.tmp 10) (.s (.int .i64 1)) (.s (.int .i64 (b.loads.length : Int))) (.s (.int .i64 (IntKind.i64.wrap (1 * 2 ^ (min (b.loads.length : Int).toNat IntKind.i64.bits))))) [] (by kernel_rfl) (by kernel_rfl) (by kernel_rfl) (fun _ => BinOk_shl (by omega)) ?_
    refine WPO_all tt_ok (by kernel_rfl) ?_
    refine WP_cond (decide ((k1 : Int) < (IntKind.i64.wrap (1 * 2 ^ (min (b.loads.length : Int).toNat IntKind.i64.bits))))) (by kernel_rfl) (fun hc1 => ?_) (fun hc1 => ?_)
    rotate_left
    · refine WP_exit ?_
      show Q1 (.exit 0) _
      exact LA_exit hq1 v1_1 (loopR_end hi1 hc1) ⟨k1, hn1, hp1⟩ (Le_sel (ts := [3]) (ids := [2, 1, 0]) (nx := 3) (by kernel_rfl))
    have hc1' := of_decide_eq_true hc1
    have hk1 : k1 < 2 ^ b.loads.length := by rw [hpw] at hc1'; omega
    refine WP_skip ?_
    refine WP_seq (WP_block ?_)
    refine WP_seq (WP_region (WPO_run tt_ok 2 (by kernel_rfl) ?_))
    refine CALLSL 110 [.g [.ref 0, .int .i64 b.rule, .int .i64 b.most], .s (.int .i64 (k1 : Int)), .s (.v (.slice none 0 0))] (fun sv2 => .t [(false, [.v sv2]), (false, [.bool (stowRD b 5 [] (k1 : Int)).2])]) 2 (stowRD b 5 [] (k1 : Int)).1 encPlace zPlace (by decide) (by kernel_rfl) (goes_of (by kernel_rfl)) (fun _ => (by kernel_rfl)) (fun _ => (by kernel_rfl)) (fun _ _ _ => rfl) (fun nV w h => stow_top (b := b) (by first | assumption | omega) (nV 0) (k1 : Int) w (by first | assumption | omega) (h.reads (id := 0) (kd := .ro) (e := 61) (by kernel_rfl))) (fun sv2 => ?_)
    refine WPO_all tt_ok (by kernel_rfl) ?_
    refine WP_region (WPO_run tt_ok 5 (by kernel_rfl) ?_)
    refine CALL 111 [.g [.ref 0, .int .i64 b.rule, .int .i64 b.most], .s (.int .i64 (k1 : Int))] (.s (.bool (heavyR b (k1 : Int)))) [((stowRD b 5 [] (k1 : Int)).2, true)] (by kernel_rfl) (goes_of (by kernel_rfl)) (by kernel_rfl) (by kernel_rfl) (fun hG nV w h => heavyR_calls (nV 0) b (k1 : Int) w (h.reads (id := 0) (kd := .ro) (e := 61) (by kernel_rfl)) ) ?_
    refine WPO_run tt_ok 2 (by kernel_rfl) ?_
    refine LIT tt_ok (by kernel_rfl) ?_
    refine LITSL 4 4 1 1 [.bool ((stowRD b 5 [] (k1 : Int)).2 && (!(heavyR b (k1 : Int))))] [(stowRD b 5 [] (k1 : Int)).2 && (!(heavyR b (k1 : Int)))] encBl false (by kernel_rfl) rfl (fun _ => rfl) (fun n => rfl) ?_
    refine APP tt_ok (.s (.ref 2)) (.s (.ref 4)) 121 4 (some 30) 1 v1_1 ([(stowRD b 5 [] (k1 : Int)).2 && (!(heavyR b (k1 : Int)))]) encBl false (by kernel_rfl) (by kernel_rfl) (by kernel_rfl) (by kernel_rfl) (.inr (.inl ⟨2, rfl, (by kernel_rfl)⟩)) (.inr ⟨4, .own, rfl, (by kernel_rfl), (by simp only [List.length_cons, List.length_nil]; omega)⟩) (by simp) (fun y => rfl) (fun y => List.all_eq_true.1 rfl) (fun i hi => (by have hby : (tyL tt 4).map (·.bytes) = some 1 := (by kernel_rfl); rw [hi] at hby; simp only [Option.map_some, Option.some.injEq] at hby; rw [hby]; simp only [List.length_append, List.length_cons, List.length_nil]; omega)) ?_
    refine WPO_all tt_ok (by kernel_rfl) ?_
    refine WP_region (WPO_all tt_ok (by kernel_rfl) ?_)
    show Q1 .normal _
    exact LA_go hq1 (ci := IntKind.i64.wrap ((k1 : Int) + 1)) (v1_1 ++ ([(stowRD b 5 [] (k1 : Int)).2 && (!(heavyR b (k1 : Int)))])) hk1 (by show _ = ((k1 + 1 : Nat) : Int); rw [wrapI (by omega) (by omega)]; omega) (loopR_go hi1 hk1 hc1 (rfl)) (by rw [List.length_append, hp1]; rfl) (Le_ren [(2, 5)] ⟨by kernel_rfl, by kernel_rfl, by kernel_rfl, trivial⟩ ⟨by kernel_rfl, rfl, by kernel_rfl, by kernel_rfl, rfl, by kernel_rfl, by kernel_rfl, rfl, by kernel_rfl, trivial⟩ (by kernel_rfl) (by kernel_rfl) (rnm_id (m := 1) (by kernel_rfl)) (by show 1 ≤ 3; decide) (by kernel_rfl) (by kernel_rfl))
  intro u1_0 hR1 hP1 s' hl
  obtain ⟨kP1, hkP1, hpP1⟩ := hP1
  replace hpP1 : u1_0.length = kP1 := hpP1
  refine WP_le hl ?_
  clear hl s'
  refine WP_seq (WP_region (WPO_all tt_ok (by kernel_rfl) ?_))
  refine WP_ret ?_
  exact ⟨.s (.ref 2), by kernel_rfl, fun nV w' h => ⟨nV 2, rfl, h.bel, by rw [show setsR b = u1_0 from by unfold setsR; simp only [hR1, cond_true, cond_false]]; exact own_of (z := false) h (by kernel_rfl)⟩⟩
end Go.Proofs.YthfnedbpmdkdjaaDoor.D
namespace Go.Proofs.YthfnedbpmdkdjaaDoor.D
open Go Go.RowKit Go.Proofs.YthfnedbpmdkdjaaDoor.Eng Go.Proofs.YthfnedbpmdkdjaaDoor.Cm
set_option linter.unusedVariables false
set_option linter.unusedSimpArgs false
set_option linter.unusedSectionVars false
def canR (b : DBook) (k : Nat) : Bool := (stowRD b 5 [] (k : Int)).2 && (!(heavyR b (k : Int)))
theorem setsR_eq {b : DBook} (hb5 : b.loads.length ≤ 5) : setsR b = (List.range (2 ^ b.loads.length)).map (canR b) := by
  obtain ⟨hpw, hpl⟩ := pow_wrap hb5
  unfold setsR
  rw [loopR_app (c := setsR_c1 b) (b := setsR_b1 b) (fun k => [canR b k]) (fun k v hk => by simp only [setsR_c1]; rw [hpw, decide_eq_true]; omega) (fun k v hk => rfl)]
  rw [List.map_eq_flatMap]
  rfl
theorem setsR_len {b : DBook} (hb5 : b.loads.length ≤ 5) : (setsR b).length = 2 ^ b.loads.length := by rw [setsR_eq hb5]; simp
def mostR_c1 (b : DBook) (k1 : Nat) : (List Int) → Bool := fun v1_1 => decide ((k1 : Int) < ((setsR b).length : Int))
def mostR_b1 (b : DBook) (k1 : Nat) : (List Int) → Bd (List Int) (List Int) := fun v1_1 => (bif ((setsR b).getD k1 false) && ((decide (((membersF (k1 : Int) (b.loads.length : Int)).length : Int) > (v1_1.length : Int))) || ((((membersF (k1 : Int) (b.loads.length : Int)).length : Int) == (v1_1.length : Int)) && (beforeF (membersF (k1 : Int) (b.loads.length : Int)) v1_1))) then .go (membersF (k1 : Int) (b.loads.length : Int)) else .go v1_1)
def mostR (b : DBook) : (List Int) :=
  (match loopR (mostR_c1 b) (mostR_b1 b) (setsR b).length 0 ([] : List Int) with | .brk u1_0 => u1_0 | .ret r => r)
theorem mostR_calls (g0 : Value) (b : DBook) (w : World) (r0 : Reads w g0 3 b.loads encLoad zLoad) (hb5 : b.loads.length ≤ 5) : Calls Tryd.prog 112 #[.agg #[g0, iv b.rule, iv b.most]] w fun e w' => ∃ v0, e = .returned (v0) ∧ Below w.heap.size w w' ∧ w'.ownsRow w.heap.size 3 1 v0 (mostR b).length (flat (mostR b) encI) := by
  refine calls_of_WP (cx := cx0 w (vn [g0]) 1) (n := vn [g0]) (vs := [.g [.ref 0, .int .i64 b.rule, .int .i64 b.most]]) (hp := [(0, .sl .ro 61 3 b.loads encLoad zLoad)]) (nx := 1) tt_ok Tryd.func112 rfl rfl rfl (by kernel_rfl) (HSat_args (vn_one (by simp [r0.one])) (Nat.le_refl _) ⟨⟨⟨fun _ => rfl, by decide, r0⟩, (Nat.le_of_ble_eq_true rfl)⟩, trivial⟩) (vsOk (by kernel_rfl)) ?_
  have hl0 := Reads.len r0
  have hsl := setsR_len hb5
  have hpl := (pow_wrap hb5).2
  refine WP_seq (WP_region (WPO_all tt_ok (by kernel_rfl) ?_))
  refine WP_seq (WP_region (WPO_run tt_ok 1 (by kernel_rfl) ?_))
  refine CALLO 113 [.g [.ref 0, .int .i64 b.rule, .int .i64 b.most]] (.s (.ref 2)) 4 1 (setsR b) encBl false 2 (by kernel_rfl) (by kernel_rfl) (goes_of (by kernel_rfl)) (by kernel_rfl) (by kernel_rfl) (fun _ => rfl) ((fun nV w h => setsR_calls (nV 0) b w (h.reads (id := 0) (kd := .ro) (e := 61) (by kernel_rfl)) (by first | assumption | omega))) ?_
  refine LIT tt_ok (by kernel_rfl) ?_
  refine LITSL 3 3 0 1 [] ([] : List Int) encI 0 (by kernel_rfl) rfl (fun _ => rfl) (fun n => rfl) ?_
  refine WPO_all tt_ok (by kernel_rfl) ?_
  refine WP_seq (WP_seq (WP_region (WPO_all tt_ok (by kernel_rfl) ?_)))
  refine WP_fact (p := ((setsR b).length : Int) ≤ 9223372036854775807) (fun nV aV wV hs => Reads.len (sz := 1) (enc := encBl) (z := false) (hs.heap.reads (id := 2) (kd := .own) (e := 4) (by kernel_rfl))) (fun hN1 => ?_)
  refine WP_loopA (ρ := (List Int)) (mostR_c1 b) (mostR_b1 b) (setsR b).length ([] : List Int) (fun k : Nat => (k : Int)) (fun (ci : Int) (zz : (List Int)) => ⟨46, [(5, [], .s (.int .i64 ci)), (4, [], .s (.ref 4)), (3, [], .s (.ref 2)), (1, [], .s (.p 1 0))], [(4, .sl .own 3 1 zz encI 0), (2, .sl .own 4 1 (setsR b) encBl false), (1, .box 24 [.ref 0, .int .i64 b.rule, .int .i64 b.most]), (0, .sl .ro 61 3 b.loads encLoad zLoad)], 5, []⟩) (fun zz : (List Int) => ⟨46, [(4, [], .s (.ref 4))], [(4, .sl .own 3 1 zz encI 0), (2, .sl .own 4 1 (setsR b) encBl false), (1, .box 24 [.ref 0, .int .i64 b.rule, .int .i64 b.most]), (0, .sl .ro 61 3 b.loads encLoad zLoad)], 5, []⟩) (fun k zz => True) trivial ⟨0, rfl, Le_ren [(4, 3)] ⟨by kernel_rfl, by kernel_rfl, by kernel_rfl, by kernel_rfl, trivial⟩ ⟨by kernel_rfl, rfl, by kernel_rfl, by kernel_rfl, rfl, by kernel_rfl, by kernel_rfl, rfl, by kernel_rfl, by kernel_rfl, rfl, by kernel_rfl, trivial⟩ (by kernel_rfl) (by kernel_rfl) (rnm_id (m := 1) (by kernel_rfl)) (by show 1 ≤ 5; decide) (by kernel_rfl) (by kernel_rfl)⟩ ?_ ?_
  · intro k1 v1_1 hn1 hp1 hi1 Q1 hq1 ho1
    refine WP_seq (WP_seq (WP_region (WPO_all tt_ok (by kernel_rfl) ?_)))
    refine WP_cond (decide ((k1 : Int) < ((setsR b).length : Int))) (by kernel_rfl) (fun hc1 => ?_) (fun hc1 => ?_)
    rotate_left
    · refine WP_exit ?_
      show Q1 (.exit 0) _
      exact LA_exit hq1 v1_1 (loopR_end hi1 hc1) ⟨k1, hn1, hp1⟩ (Le_sel (ts := [4]) (ids := [4, 2, 1, 0]) (nx := 5) (by kernel_rfl))
    have hc1' := of_decide_eq_true hc1
    have hk1 : k1 < (setsR b).length := by omega
    refine WP_skip ?_
    refine WP_seq (WP_block ?_)
    refine WP_seq (WP_region (WPO_run tt_ok 4 (by kernel_rfl) ?_))
    refine CALLO 57 [.s (.int .i64 (k1 : Int)), .s (.int .i64 (b.loads.length : Int))] (.s (.ref 5)) 3 1 (membersF (k1 : Int) (b.loads.length : Int)) encI 0 5 (by kernel_rfl) (by kernel_rfl) (goes_of (by kernel_rfl)) (by kernel_rfl) (by kernel_rfl) (fun _ => rfl) ((fun nV w h => membersF_calls  (k1 : Int) (b.loads.length : Int) w  (by first | assumption | omega))) ?_
    refine WPO_all tt_ok (by kernel_rfl) ?_
    refine WP_seq (WP_region (WPO_run tt_ok 2 (by kernel_rfl) ?_))
    refine IX tt_ok (k1 : Int) (setsR b).length [] (by kernel_rfl) (fun hG => ⟨by omega, by omega⟩) ?_
    refine WPO_run tt_ok 16 (by kernel_rfl) ?_
    refine CALL 52 [.s (.ref 5), .s (.ref 4)] (.s (.bool (beforeF (membersF (k1 : Int) (b.loads.length : Int)) v1_1))) [(((membersF (k1 : Int) (b.loads.length : Int)).length : Int) == (v1_1.length : Int), true), (decide (((membersF (k1 : Int) (b.loads.length : Int)).length : Int) > (v1_1.length : Int)), false), (((setsR b).getD k1 false), true)] (by kernel_rfl) (goes_of (by kernel_rfl)) (by kernel_rfl) (by kernel_rfl) (fun hG nV w h => beforeF_calls (nV 5) (nV 4) (membersF (k1 : Int) (b.loads.length : Int)) v1_1 w (h.reads (id := 5) (kd := .own) (e := 3) (by kernel_rfl)) (h.reads (id := 4) (kd := .own) (e := 3) (by kernel_rfl)) ) ?_
    refine WPO_all tt_ok (by kernel_rfl) ?_
    refine WP_cond (((setsR b).getD k1 false) && ((decide (((membersF (k1 : Int) (b.loads.length : Int)).length : Int) > (v1_1.length : Int))) || ((((membersF (k1 : Int) (b.loads.length : Int)).length : Int) == (v1_1.length : Int)) && (beforeF (membersF (k1 : Int) (b.loads.length : Int)) v1_1)))) (by kernel_rfl) (fun hc3 => ?_) (fun hc3 => ?_)
    · have hc3' := hc3; try simp only [Bool.and_eq_true, Bool.or_eq_true, Bool.and_eq_false_iff, Bool.or_eq_false_iff, Bool.not_eq_true', Bool.not_eq_false', decide_eq_true_eq, decide_eq_false_iff_not, beq_iff_eq, beq_eq_false_iff_ne, bne_iff_ne, bne_eq_false_iff_eq, ne_eq] at hc3'
      refine WP_region (WPO_all tt_ok (by kernel_rfl) ?_)
      refine WP_region (WPO_all tt_ok (by kernel_rfl) ?_)
      show Q1 .normal _
      exact LA_go hq1 (ci := IntKind.i64.wrap ((k1 : Int) + 1)) (membersF (k1 : Int) (b.loads.length : Int)) hk1 (by show _ = ((k1 + 1 : Nat) : Int); rw [wrapI (by omega) (by omega)]; omega) (loopR_go hi1 hk1 hc1 (by unfold mostR_b1; simp only [hc3, cond_true, cond_false])) trivial (Le_ren [(4, 5)] ⟨by kernel_rfl, by kernel_rfl, by kernel_rfl, by kernel_rfl, trivial⟩ ⟨by kernel_rfl, rfl, by kernel_rfl, by kernel_rfl, rfl, by kernel_rfl, by kernel_rfl, rfl, by kernel_rfl, by kernel_rfl, rfl, by kernel_rfl, trivial⟩ (by kernel_rfl) (by kernel_rfl) (rnm_id (m := 1) (by kernel_rfl)) (by show 1 ≤ 5; decide) (by kernel_rfl) (by kernel_rfl))
    have hc3' := hc3; try simp only [Bool.and_eq_true, Bool.or_eq_true, Bool.and_eq_false_iff, Bool.or_eq_false_iff, Bool.not_eq_true', Bool.not_eq_false', decide_eq_true_eq, decide_eq_false_iff_not, beq_iff_eq, beq_eq_false_iff_ne, bne_iff_ne, bne_eq_false_iff_eq, ne_eq] at hc3'
    refine WP_skip ?_
    refine WP_region (WPO_all tt_ok (by kernel_rfl) ?_)
    show Q1 .normal _
    exact LA_go hq1 (ci := IntKind.i64.wrap ((k1 : Int) + 1)) v1_1 hk1 (by show _ = ((k1 + 1 : Nat) : Int); rw [wrapI (by omega) (by omega)]; omega) (loopR_go hi1 hk1 hc1 (by unfold mostR_b1; simp only [hc3, cond_true, cond_false])) trivial (Le_sel (ts := [5, 4, 3, 1]) (ids := [4, 2, 1, 0]) (nx := 5) (by kernel_rfl))
  intro u1_0 hR1 hP1 s' hl
  refine WP_le hl ?_
  clear hl s'
  refine WP_seq (WP_region (WPO_all tt_ok (by kernel_rfl) ?_))
  refine WP_ret ?_
  exact ⟨.s (.ref 4), by kernel_rfl, fun nV w' h => ⟨nV 4, rfl, h.bel, by rw [show mostR b = u1_0 from by unfold mostR; simp only [hR1, cond_true, cond_false]]; exact own_of (z := 0) h (by kernel_rfl)⟩⟩
end Go.Proofs.YthfnedbpmdkdjaaDoor.D
namespace Go.Proofs.YthfnedbpmdkdjaaDoor.D
open Go Go.RowKit Go.Proofs.YthfnedbpmdkdjaaDoor.Eng Go.Proofs.YthfnedbpmdkdjaaDoor.Cm
set_option linter.unusedVariables false
set_option linter.unusedSimpArgs false
set_option linter.unusedSectionVars false
theorem findSome_cg {α β : Type} {f g : α → Option β} : ∀ {l : List α}, (∀ x ∈ l, f x = g x) → l.findSome? f = l.findSome? g
  | [], _ => rfl
  | x :: xs, h => by
    rw [List.findSome?_cons, List.findSome?_cons, h x (List.mem_cons_self ..), findSome_cg fun y hy => h y (List.mem_cons_of_mem _ hy)]
def k2R (b : DBook) (F : List Place → Int → List Place × Bool) (on : List Place) (left : Int) (k q : Nat) : Option (List Place × Bool) :=
  bif (!(memberF left (k : Int))) || (!(memberF (b.loads.getD k zLoad).lanes (q : Int))) then none else bif decide ((levelR b (on ++ [(⟨(k : Int), (q : Int)⟩ : Place)])) < 2) then none else bif (F (on ++ [(⟨(k : Int), (q : Int)⟩ : Place)]) (subI left k)).2 then some ((F (on ++ [(⟨(k : Int), (q : Int)⟩ : Place)]) (subI left k)).1, true) else none
theorem stowS_eq (b : DBook) (F : List Place → Int → List Place × Bool) (on : List Place) (left : Int) : stowS b F on left = if left = 0 then (on, true) else ((List.range b.loads.length).findSome? fun k => (List.range 3).findSome? (k2R b F on left k)).getD ([], false) := by
  have hin : ∀ k : Nat, loopR (stowS_c2 b F on left k) (stowS_b2 b F on left k) 3 0 () = match (List.range 3).findSome? (k2R b F on left k) with | some r => .ret r | none => .brk () := fun k => by
    refine (loopR_some (N := 3) (c := stowS_c2 b F on left k) (b := stowS_b2 b F on left k) (k2R b F on left k) (fun q hq => by simp only [stowS_c2]; rw [decide_eq_true]; omega) (fun q hq => by
      simp only [stowS_b2, k2R, List.nil_append, subI]
      cases (!(memberF left (k : Int))) || (!(memberF (b.loads.getD k zLoad).lanes (q : Int))) with
      | true => rfl
      | false =>
        cases decide ((levelR b (on ++ [(⟨(k : Int), (q : Int)⟩ : Place)])) < 2) with
        | true => rfl
        | false =>
          simp only [cond_false]
          generalize F (on ++ [(⟨(k : Int), (q : Int)⟩ : Place)]) _ = z
          obtain ⟨z1, z2⟩ := z
          cases z2 <;> rfl)).trans ?_
    cases (List.range 3).findSome? (k2R b F on left k) <;> rfl
  unfold stowS
  by_cases h0 : left = 0
  · rw [if_pos h0, h0]; rfl
  · rw [if_neg h0, show (left == 0) = false from beq_eq_false_iff_ne.2 h0, cond_false]
    rw [loopR_some (c := stowS_c1 b F on left) (b := stowS_b1 b F on left) (fun k => (List.range 3).findSome? (k2R b F on left k)) (fun k hk => by simp only [stowS_c1]; rw [decide_eq_true]; omega) (fun k hk => by
      simp only [stowS_b1, hin k]
      cases (List.range 3).findSome? (k2R b F on left k) <;> rfl)]
    cases (List.range b.loads.length).findSome? (fun k => (List.range 3).findSome? (k2R b F on left k)) <;> rfl
theorem member_bit {left : Int} {k : Nat} (h : 0 ≤ left ∧ left < 32) (hk : k < 5) : memberF left (k : Int) = !(bitI left k == 0) := mem_bits h hk
theorem pl_nat {b : DBook} {k q : Nat} (hk : k < b.loads.length) (hq : q < 3) : isPl b (k : Int) (q : Int) = memberF (b.loads.getD k zLoad).lanes (q : Int) := by
  unfold isPl
  rw [decide_eq_true (show (0 : Int) ≤ (k : Int) by omega), decide_eq_true (show (k : Int) < b.loads.length by omega), decide_eq_true (show (0 : Int) ≤ (q : Int) by omega), decide_eq_true (show (q : Int) < 3 by omega), Int.toNat_natCast]
  rfl
theorem stowRD_eq {b : DBook} (hv : ValidD b) : ∀ (r : Nat) (on : List Place) (left : Int), LeftOk r left → (∀ x ∈ on, isPl b x.load x.lane = true) → on.length + r ≤ 5 → stowRD b r on left = driveD b r on (accD b on on.length) left := by
  have hn := hv.n
  intro r
  induction r with
  | zero =>
    intro on left h hpl hlen
    rw [card0 h]
    show stowS b _ on 0 = driveS b _ on _ 0
    rw [driveS_eq, stowS_eq, if_pos rfl, if_pos rfl]
  | succ r ih =>
    intro on left h hpl hlen
    show stowS b (stowRD b r) on left = driveS b (driveD b r) on _ left
    rw [driveS_eq, stowS_eq]
    by_cases h0 : left = 0
    · rw [if_pos h0, if_pos h0]
    · rw [if_neg h0, if_neg h0]
      congr 1
      refine findSome_cg fun k hk => ?_
      have hk := List.mem_range.1 hk
      unfold g1
      cases hb : (bitI left k == 0) with
      | true =>
        rw [if_pos rfl]
        refine List.findSome?_eq_none_iff.2 fun q hq => ?_
        unfold k2R
        rw [member_bit h.1 (by omega), hb]; rfl
      | false =>
        rw [if_neg (by decide)]
        refine findSome_cg fun q hq => ?_
        have hq := List.mem_range.1 hq
        have hof := off_spec h.1 (by omega) hb
        have hmb : memberF left (k : Int) = true := by rw [member_bit h.1 (by omega), hb]; rfl
        unfold k2R g2 okP nextP
        rw [hmb, (sub_spec h.1 (by omega) hmb).1, ← pl_nat hk hq]
        cases hp : isPl b (k : Int) (q : Int) with
        | false => rfl
        | true =>
          have hpl2 : ∀ x ∈ on ++ [(⟨(k : Int), (q : Int)⟩ : Place)], isPl b x.load x.lane = true := fun x hx => by
            rcases List.mem_append.1 hx with hx | hx
            · exact hpl x hx
            · rw [List.mem_singleton.1 hx]; exact hp
          have hacc : accD b (on ++ [(⟨(k : Int), (q : Int)⟩ : Place)]) (on ++ [(⟨(k : Int), (q : Int)⟩ : Place)]).length = laneF (q : Int) (accD b on on.length) (b.loads.getD k zLoad).w := by
            unfold accD
            rw [List.take_length, List.take_length, List.foldl_append]
            show stepD b _ _ = _
            unfold stepD
            simp only [Int.toNat_natCast]
          rw [levelR_eq hv hpl2 (by rw [List.length_append, List.length_singleton]; omega), hacc, ih _ _ ⟨hof.1, by have := h.2; omega⟩ hpl2 (by rw [List.length_append, List.length_singleton]; omega), hacc]
          cases decide (levelD b (laneF (q : Int) (accD b on on.length) (b.loads.getD k zLoad).w) < 2) <;> rfl
theorem heavy_eq (b : DBook) (s : Int) : heavyR b s = decide (weightD b s > b.most) := by
  unfold heavyR
  rw [weight_eq, loopR_foldl (c := heavyR_c1 b s) (b := heavyR_b1 b s) (fun (k : Nat) (v : Int) => bif memberF s (k : Int) then IntKind.i64.wrap (v + (b.loads.getD k zLoad).w.hi) else v) (fun k v hk => by simp only [heavyR_c1]; rw [decide_eq_true]; omega) (fun k v hk => rfl)]
theorem stow_all {b : DBook} (hv : ValidD b) {s : Int} (hs : 0 ≤ s ∧ s < 32) : stowD b s = bif heavyR b s then ([], false) else stowRD b 5 [] s := by
  rw [heavy_eq, stowRD_eq hv 5 [] s (left5 hs) (fun x hx => by cases hx) (by simp)]
  rfl
theorem can_together {b : DBook} (hv : ValidD b) {k : Nat} (hk : k < 2 ^ b.loads.length) : canR b k = togetherD b (k : Int) := by
  have hp := (pow_wrap hv.n.2).2
  unfold canR togetherD
  rw [stow_all hv (by omega)]
  cases heavyR b (k : Int) <;> simp
theorem M_zero (n : Nat) (hn : n ≤ 5) : M n 0 = [] := List.length_eq_zero_iff.1 ((M_empty hn (Nat.pow_pos (by decide))).2 rfl)
theorem most_fold {b : DBook} (hv : ValidD b) : mostR b = mostD b := by
  have hn := hv.n
  have hsl := setsR_len hn.2
  unfold mostR
  rw [hsl, loopR_foldl (c := mostR_c1 b) (b := mostR_b1 b) (fun (k : Nat) (v : List Int) => bif canR b k && ((decide (((M b.loads.length k).length : Int) > (v.length : Int))) || ((((M b.loads.length k).length : Int) == (v.length : Int)) && (beforeF (M b.loads.length k) v))) then M b.loads.length k else v) (fun k v hk => by simp only [mostR_c1]; rw [hsl, decide_eq_true]; omega) (fun k v hk => by
    simp only [mostR_b1]
    have hg : (setsR b).getD k false = canR b k := by
      rw [setsR_eq hn.2, List.getD_eq_getElem?_getD, List.getElem?_map, List.getElem?_range hk]; rfl
    rw [hg]
    show (bif canR b k && ((decide (((M b.loads.length k).length : Int) > (v.length : Int))) || ((((M b.loads.length k).length : Int) == (v.length : Int)) && (beforeF (M b.loads.length k) v))) then _ else _) = _
    cases canR b k && ((decide (((M b.loads.length k).length : Int) > (v.length : Int))) || ((((M b.loads.length k).length : Int) == (v.length : Int)) && (beforeF (M b.loads.length k) v))) <;> rfl)]
  simp only
  unfold mostD
  have : ∀ m, m ≤ 2 ^ b.loads.length → (List.range m).foldl (fun (v : List Int) (k : Nat) => bif canR b k && ((decide (((M b.loads.length k).length : Int) > (v.length : Int))) || ((((M b.loads.length k).length : Int) == (v.length : Int)) && (beforeF (M b.loads.length k) v))) then M b.loads.length k else v) [] = mostK b m ∧ ∃ t, t < 2 ^ b.loads.length ∧ mostK b m = M b.loads.length t := by
    intro m
    induction m with
    | zero => intro _; exact ⟨rfl, 0, Nat.pow_pos (by decide), (M_zero _ hn.2).symm⟩
    | succ m ih =>
      intro hm
      obtain ⟨h1, t, h2, h3⟩ := ih (by omega)
      rw [List.range_succ, List.foldl_append, h1, mostK_succ, listed_eq]
      simp only [List.foldl_cons, List.foldl_nil]
      rw [can_together hv (by omega), h3, better_eq hn.2 (by omega) h2]
      show (bif _ then _ else _) = (bif longerD (M b.loads.length m) (M b.loads.length t) && togetherD b (m : Int) then M b.loads.length m else M b.loads.length t) ∧ ∃ t', t' < 2 ^ b.loads.length ∧ (bif longerD (M b.loads.length m) (M b.loads.length t) && togetherD b (m : Int) then M b.loads.length m else M b.loads.length t) = M b.loads.length t'
      cases togetherD b (m : Int) with
      | false => rw [Bool.and_false, Bool.false_and]; exact ⟨rfl, t, h2, rfl⟩
      | true =>
        rw [Bool.and_true, Bool.true_and]
        cases longerD (M b.loads.length m) (M b.loads.length t) with
        | false => exact ⟨rfl, t, h2, rfl⟩
        | true => exact ⟨rfl, m, by omega, rfl⟩
  exact (this _ (Nat.le_refl _)).1
end Go.Proofs.YthfnedbpmdkdjaaDoor.D
namespace Go.Proofs.YthfnedbpmdkdjaaDoor.D
open Go Go.RowKit Go.Proofs.YthfnedbpmdkdjaaDoor.Eng Go.Proofs.YthfnedbpmdkdjaaDoor.Cm
set_option linter.unusedVariables false
set_option linter.unusedSimpArgs false
set_option linter.unusedSectionVars false
theorem orS_all : ((List.range 32).all fun s => (List.range 32).all fun t => decide (0 ≤ orS (s : Int) (t : Int) ∧ orS (s : Int) (t : Int) < 32) && (List.range 5).all fun j => (bitI (orS (s : Int) (t : Int)) j == 0) == (z0 s j && z0 t j)) = true := by kernel_rfl
theorem rest_all : all6 (fun n v => (IntKind.i64.wrap (BitVec.ofInt IntKind.i64.bits (((2 ^ n : Nat) : Int) - 1) &&& ~~~(BitVec.ofInt IntKind.i64.bits (v : Int))).toNat) == ((2 ^ n - 1 - v : Nat) : Int)) = true := by kernel_rfl
theorem orS_spec {s t : Int} (hs : 0 ≤ s ∧ s < 32) (ht : 0 ≤ t ∧ t < 32) : (0 ≤ orS s t ∧ orS s t < 32) ∧ ∀ j, j < 5 → (bitI (orS s t) j == 0) = ((bitI s j == 0) && (bitI t j == 0)) := by
  have h1 := all2 orS_all (s := s.toNat) (k := t.toNat) (by omega) (by omega)
  rw [castN hs.1, castN ht.1, Bool.and_eq_true] at h1
  refine ⟨of_decide_eq_true h1.1, fun j hj => ?_⟩
  have h2 := List.all_eq_true.1 h1.2 j (List.mem_range.2 hj)
  simp only [z0, castN hs.1, castN ht.1] at h2
  exact eq_of_beq h2
theorem some_spec {b : DBook} (hv : ValidD b) : ∃ v : Nat, v < 2 ^ b.loads.length ∧ someD b = (v : Int) ∧ ∀ j, j < 5 → ((bitI (v : Int) j == 0) = false ↔ ∃ s : Nat, s < 2 ^ b.loads.length ∧ togetherD b (s : Int) = true ∧ (bitI (s : Int) j == 0) = false) := by
  have hz : ∀ i, i < 5 → (bitI 0 i == 0) = true := fun i hi => List.all_eq_true.1 bit0_all i (List.mem_range.2 hi)
  have key : ∀ k : Nat, k ≤ 2 ^ b.loads.length → (0 ≤ (List.range k).foldl (fun (v : Int) (k : Nat) => bif (togetherD b (k : Int)) then orS v (k : Int) else v) 0 ∧ (List.range k).foldl (fun (v : Int) (k : Nat) => bif (togetherD b (k : Int)) then orS v (k : Int) else v) 0 < 32) ∧ ∀ j, j < 5 → ((bitI ((List.range k).foldl (fun (v : Int) (k : Nat) => bif (togetherD b (k : Int)) then orS v (k : Int) else v) 0) j == 0) = false ↔ ∃ s : Nat, s < k ∧ togetherD b (s : Int) = true ∧ (bitI (s : Int) j == 0) = false) := by
    intro k
    induction k with
    | zero =>
      intro _
      simp only [List.range_zero, List.foldl_nil]
      exact ⟨by omega, fun j hj => ⟨fun h => (by rw [hz j hj] at h; cases h), fun ⟨s, h, _⟩ => (by omega)⟩⟩
    | succ k ih =>
      intro hk
      obtain ⟨h1, h2⟩ := ih (by omega)
      have h32 : k < 32 := by have := pow_le5 hv.n.2; omega
      rw [List.range_succ, List.foldl_append]
      simp only [List.foldl_cons, List.foldl_nil]
      cases hT : togetherD b (k : Int) with
      | true =>
        obtain ⟨h3, h4⟩ := orS_spec h1 (t := (k : Int)) (by omega)
        refine ⟨h3, fun j hj => ?_⟩
        rw [cond_true, h4 j hj, Bool.and_eq_false_iff, h2 j hj]
        constructor
        · rintro (⟨s, h5, h6⟩ | h5)
          · exact ⟨s, by omega, h6⟩
          · exact ⟨k, by omega, hT, h5⟩
        · rintro ⟨s, h5, h6, h7⟩
          by_cases e : s = k
          · subst e; exact .inr h7
          · exact .inl ⟨s, by omega, h6, h7⟩
      | false =>
        refine ⟨h1, fun j hj => ?_⟩
        rw [cond_false, h2 j hj]
        constructor
        · rintro ⟨s, h5, h6⟩; exact ⟨s, by omega, h6⟩
        · rintro ⟨s, h5, h6, h7⟩
          by_cases e : s = k
          · subst e; rw [hT] at h6; cases h6
          · exact ⟨s, by omega, h6, h7⟩
  obtain ⟨h1, h2⟩ := key (2 ^ b.loads.length) (Nat.le_refl _)
  have he : someD b = (List.range (2 ^ b.loads.length)).foldl (fun (v : Int) (k : Nat) => bif (togetherD b (k : Int)) then orS v (k : Int) else v) 0 := rfl
  rw [← he] at h1 h2
  refine ⟨(someD b).toNat, ?_, by omega, fun j hj => by rw [castN h1.1]; exact h2 j hj⟩
  have h4 := List.all_eq_true.1 (List.all_eq_true.1 small_all b.loads.length (List.mem_range.2 (by have := hv.n; omega))) (someD b).toNat (List.mem_range.2 (by omega))
  rw [Bool.or_eq_true, decide_eq_true_eq] at h4
  rcases h4 with h4 | h4
  · exact h4
  · obtain ⟨k, hk, hb⟩ := List.any_eq_true.1 h4
    simp only [z0, castN h1.1, Bool.and_eq_true, decide_eq_true_eq, Bool.not_eq_true'] at hb
    obtain ⟨s, h5, _, h6⟩ := (h2 k (List.mem_range.1 hk)).1 hb.2
    have h7 := (setIs_M hv.n.2 h5).mem k (List.mem_range.1 hk)
    have h8 := (M_climb b.loads.length s).rng _ (h7.1 h6)
    omega
theorem never_M {b : DBook} (hv : ValidD b) {v : Nat} (h1 : v < 2 ^ b.loads.length) (h2 : someD b = (v : Int)) : neverA b = (M b.loads.length (2 ^ b.loads.length - 1 - v), 0) := by
  rw [never_eq (checkD_valid.2 hv), h2, all_pow hv.n.2, eq_of_beq (all6_spec rest_all hv.n.2 h1), listed_eq]
  rfl
end Go.Proofs.YthfnedbpmdkdjaaDoor.D
namespace Go.Proofs.YthfnedbpmdkdjaaDoor.D
open Go Go.RowKit Go.Proofs.YthfnedbpmdkdjaaDoor.Eng Go.Proofs.YthfnedbpmdkdjaaDoor.Cm
set_option linter.unusedVariables false
set_option linter.unusedSimpArgs false
set_option linter.unusedSectionVars false
def bookW (b : DBook) (k : Nat) (x : Int) : DBook := ⟨b.loads.set k ⟨⟨x, x⟩, (b.loads.getD k zLoad).lanes⟩, b.rule, b.most⟩
theorem bookW_valid {b : DBook} (hv : ValidD b) {k : Nat} (hk : k < b.loads.length) {x : Int} (hx : (b.loads.getD k zLoad).w.lo ≤ x ∧ x ≤ (b.loads.getD k zLoad).w.hi) : ValidD (bookW b k x) := by
  refine ⟨by unfold bookW; simp only [List.length_set]; exact hv.n, hv.rule, hv.most, fun y hy => ?_⟩
  rcases List.mem_or_eq_of_mem_set hy with h | h
  · exact hv.loads y h
  · have := hv.load hk
    subst h
    simp only; omega
def wideW (b : DBook) (k : Nat) : Nat := ((b.loads.getD k zLoad).w.hi - (b.loads.getD k zLoad).w.lo + 1).toNat
def W (b : DBook) (k : Nat) : Int := (List.range (wideW b k)).foldl (fun (v : Int) (i : Nat) => mn v ((mostD (bookW b k ((b.loads.getD k zLoad).w.lo + (i : Int)))).length : Int)) (b.loads.length : Int)
theorem W_nonneg (b : DBook) (k : Nat) : 0 ≤ W b k := by
  unfold W
  have : ∀ (l : List Nat) (v : Int), 0 ≤ v → 0 ≤ l.foldl (fun (v : Int) (i : Nat) => mn v ((mostD (bookW b k ((b.loads.getD k zLoad).w.lo + (i : Int)))).length : Int)) v := by
    intro l
    induction l with
    | nil => intro v h; exact h
    | cons x l ih => intro v h; exact ih _ (by simp only [mn_spec]; omega)
  exact this _ _ (by omega)
theorem greatest_one (u v : Int) : greatestD u [v] = max u v := by
  unfold greatestD
  rw [loopR_foldl (c := greatestD_c1 u [v]) (b := greatestD_b1 u [v]) (fun k x => mx x ([v].getD k 0)) (fun k x hk => by simp only [greatestD_c1]; rw [decide_eq_true]; simp at hk; simp; omega) (fun k x hk => rfl)]
  show mx u v = _
  rw [mx_spec]
def openW (b : DBook) (k : Nat) : Prop := (b.loads.getD k zLoad).w.lo < (b.loads.getD k zLoad).w.hi
theorem weigh_spec {b : DBook} (hv : ValidD b) : (weighA b = (0, 4) ∧ ∀ j, j < b.loads.length → ¬ openW b j) ∨ ∃ j : Nat, j < b.loads.length ∧ openW b j ∧ weighA b = ((j : Int), 0) ∧ ∀ i, i < b.loads.length → openW b i → W b i ≤ W b j ∧ (i < j → W b i < W b j) := by
  have hn := hv.n
  unfold weighA
  rw [checkD_valid.2 hv]
  rcases loopR_keep (c := weighA_c1 b) (b := weighA_b1 b) (N := b.loads.length) (fun k v => (v = (-1, -1) ∧ ∀ j, j < k → ¬ openW b j) ∨ ∃ j : Nat, j < k ∧ openW b j ∧ v = (W b j, (j : Int)) ∧ ∀ i, i < k → openW b i → W b i ≤ W b j ∧ (i < j → W b i < W b j)) (fun _ => False) (fun k v hk _ => by obtain ⟨v1, v2⟩ := v; simp only [weighA_c1]; rw [decide_eq_true]; omega) (fun k v hk hp => by
    obtain ⟨v1, v2⟩ := v
    have hw := (hv.load hk).1
    have hw1 : IntKind.i64.wrap ((b.loads.getD k zLoad).w.hi - (b.loads.getD k zLoad).w.lo) = (b.loads.getD k zLoad).w.hi - (b.loads.getD k zLoad).w.lo := wrapI (by omega) (by omega)
    have hw2 : IntKind.i64.wrap ((b.loads.getD k zLoad).w.hi - (b.loads.getD k zLoad).w.lo + 1) = (b.loads.getD k zLoad).w.hi - (b.loads.getD k zLoad).w.lo + 1 := wrapI (by omega) (by omega)
    left
    simp only [weighA_b1]
    rw [hw1, hw2]
    by_cases ho : openW b k
    · have ho' : (b.loads.getD k zLoad).w.lo < (b.loads.getD k zLoad).w.hi := ho
      rw [show ((b.loads.getD k zLoad).w.hi - (b.loads.getD k zLoad).w.lo == 0) = false from beq_eq_false_iff_ne.2 (by omega), cond_false]
      have hin : loopR (weighA_c2 b k v1 v2) (weighA_b2 b k v1 v2) ((b.loads.getD k zLoad).w.hi - (b.loads.getD k zLoad).w.lo + 1).toNat 0 (b.loads.length : Int) = .brk (W b k) := by
        rw [loopR_foldl (c := weighA_c2 b k v1 v2) (b := weighA_b2 b k v1 v2) (fun (i : Nat) (v : Int) => mn v ((mostD (bookW b k ((b.loads.getD k zLoad).w.lo + (i : Int)))).length : Int)) (fun i v hi => by
          simp only [weighA_c2]
          rw [hw1, hw2, decide_eq_true]; omega) (fun i v hi => by
          simp only [weighA_b2, cloneL]
          rw [wrapI (x := (b.loads.getD k zLoad).w.lo + (i : Int)) (by omega) (by omega)]
          rfl)]
        rfl
      rw [hin]
      simp only
      rw [greatest_one]
      have hW := W_nonneg b k
      rcases hp with ⟨h1, h2⟩ | ⟨j, h1, h2, h3, h4⟩
      · cases h1
        rw [decide_eq_true (show max (W b k) (-1) > -1 by omega)]
        exact ⟨_, rfl, .inr ⟨k, by omega, ho, rfl, fun i hi hoi => by
          by_cases e : i = k
          · subst e; exact ⟨Int.le_refl _, fun h => by omega⟩
          · exact absurd hoi (h2 i (by omega))⟩⟩
      · cases h3
        by_cases hgt : W b k > W b j
        · rw [decide_eq_true (show max (W b k) (W b j) > W b j by omega)]
          exact ⟨_, rfl, .inr ⟨k, by omega, ho, rfl, fun i hi hoi => by
            by_cases e : i = k
            · subst e; exact ⟨Int.le_refl _, fun h => by omega⟩
            · have := h4 i (by omega) hoi; omega⟩⟩
        · rw [decide_eq_false (show ¬ max (W b k) (W b j) > W b j by omega)]
          exact ⟨_, rfl, .inr ⟨j, by omega, h2, rfl, fun i hi hoi => by
            by_cases e : i = k
            · subst e; omega
            · exact h4 i (by omega) hoi⟩⟩
    · have ho' : ¬ (b.loads.getD k zLoad).w.lo < (b.loads.getD k zLoad).w.hi := ho
      rw [show ((b.loads.getD k zLoad).w.hi - (b.loads.getD k zLoad).w.lo == 0) = true from beq_iff_eq.2 (by omega), cond_true]
      refine ⟨_, rfl, ?_⟩
      rcases hp with ⟨h1, h2⟩ | ⟨j, h1, h2, h3, h4⟩
      · exact .inl ⟨h1, fun i hi => by
          by_cases e : i = k
          · rw [e]; exact ho
          · exact h2 i (by omega)⟩
      · exact .inr ⟨j, by omega, h2, h3, fun i hi hoi => by
          by_cases e : i = k
          · subst e; exact absurd hoi ho
          · exact h4 i (by omega) hoi⟩) (-1, -1) (.inl ⟨rfl, fun j hj => by omega⟩) with ⟨v, e, hp⟩ | ⟨r, e, hf⟩
  · rw [e]
    rcases hp with ⟨h1, h2⟩ | ⟨j, h1, h2, h3, h4⟩
    · left; rw [h1]; exact ⟨rfl, h2⟩
    · right
      refine ⟨j, h1, h2, ?_, h4⟩
      rw [h3]
      simp only [bne_self_eq_false, cond_false]
      rw [decide_eq_false (show ¬ (j : Int) < 0 by omega)]; rfl
  · exact hf.elim
theorem weigh_bad {b : DBook} (h : checkD b = 30) : weighA b = (0, 30) := by
  unfold weighA
  rw [h]; rfl
end Go.Proofs.YthfnedbpmdkdjaaDoor.D
namespace Go.Proofs.YthfnedbpmdkdjaaDoor.D
open Go Go.RowKit Go.Proofs.YthfnedbpmdkdjaaDoor.Eng Go.Proofs.YthfnedbpmdkdjaaDoor.Cm
set_option linter.unusedVariables false
set_option linter.unusedSimpArgs false
set_option linter.unusedSectionVars false
theorem alike_self (l : List Int) : alikeF l l = true := by
  unfold alikeF
  rw [show ((l.length : Int) != (l.length : Int)) = false by simp]
  rw [loopR_find (fun _ => false) (fun _ => false) (fun k hk => by simp only [alikeF_c1]; rw [decide_eq_true]; omega) (fun k hk => by simp only [alikeF_b1]; simp)]
  have : (List.range l.length).find? (fun _ => false) = none := List.find?_eq_none.2 fun x _ h => by cases h
  rw [this]; rfl
structure FlipOf (b x : DBook) : Prop where
  vb : ValidD b
  vx : ValidD x
  n : x.loads.length = b.loads.length
  ld : ∀ k, k < b.loads.length → (x.loads.getD k zLoad).w = (b.loads.getD k zLoad).w ∧ ∀ l : Int, 0 ≤ l → l < 3 → laneB (x.loads.getD k zLoad) (2 - l) = laneB (b.loads.getD k zLoad) l
  rule : x.rule = b.rule
  most : x.most = b.most
theorem FlipOf.symm {b x : DBook} (h : FlipOf b x) : FlipOf x b := ⟨h.vx, h.vb, h.n.symm, fun k hk => ⟨(h.ld k (by rw [← h.n]; exact hk)).1.symm, fun l h1 h2 => by
  have := (h.ld k (by rw [← h.n]; exact hk)).2 (2 - l) (by omega) (by omega)
  rw [show 2 - (2 - l) = l by omega] at this
  exact this.symm⟩, h.rule.symm, h.most.symm⟩
end Go.Proofs.YthfnedbpmdkdjaaDoor.D
namespace Go.Proofs.YthfnedbpmdkdjaaDoor.D
open Go Go.RowKit Go.Proofs.YthfnedbpmdkdjaaDoor.Eng Go.Proofs.YthfnedbpmdkdjaaDoor.Cm
set_option linter.unusedVariables false
set_option linter.unusedSimpArgs false
set_option linter.unusedSectionVars false
def CrossK (can : List Bool) (many loads : Int) (R : Nat → Prop) (F : List Int → List Int × Bool) : Prop := ∀ (sv tv : Value) (so : List Int) (w : World), R so.length → Reads w sv 1 can encBl false → Reads w tv 1 so encI 0 →
    Calls Tryd.prog 114 #[sv, iv many, iv loads, tv] w fun e w' => ∃ v, e = .returned (.tuple #[v, .bool (F so).2]) ∧ Below w.heap.size w w' ∧ Reads w' v 1 (F so).1 encI 0 ∧ (∀ g, vblk v = some g → vblk tv = some g ∨ (w.heap.size ≤ g ∧ g < w'.heap.size))
theorem cond_in {α : Type} {p : α → Prop} {c : Bool} {x y : α} (hx : p x) (hy : p y) : p (bif c then x else y) := by cases c <;> assumption
theorem or_pow_all : ((List.range 6).all fun n : Nat => (List.range 32).all fun s : Nat => (List.range 5).all fun k : Nat => !(decide (s < 2 ^ n ∧ k < n)) || decide (0 ≤ (IntKind.i64.wrap (BitVec.ofInt IntKind.i64.bits (s : Int) ||| BitVec.ofInt IntKind.i64.bits (IntKind.i64.wrap (1 * 2 ^ (min (k : Int).toNat IntKind.i64.bits)))).toNat) ∧ (IntKind.i64.wrap (BitVec.ofInt IntKind.i64.bits (s : Int) ||| BitVec.ofInt IntKind.i64.bits (IntKind.i64.wrap (1 * 2 ^ (min (k : Int).toNat IntKind.i64.bits)))).toNat) < ((2 ^ n : Nat) : Int))) = true := by kernel_rfl
theorem or_pow {n : Nat} {s : Int} {k : Nat} (hn : n ≤ 5) (h : 0 ≤ s ∧ s < ((2 ^ n : Nat) : Int)) (hk : k < n) : 0 ≤ (IntKind.i64.wrap (BitVec.ofInt IntKind.i64.bits s ||| BitVec.ofInt IntKind.i64.bits (IntKind.i64.wrap (1 * 2 ^ (min (k : Int).toNat IntKind.i64.bits)))).toNat) ∧ (IntKind.i64.wrap (BitVec.ofInt IntKind.i64.bits s ||| BitVec.ofInt IntKind.i64.bits (IntKind.i64.wrap (1 * 2 ^ (min (k : Int).toNat IntKind.i64.bits)))).toNat) < ((2 ^ n : Nat) : Int) := by
  have hp := (pow_wrap hn).2
  have h1 := List.all_eq_true.1 (List.all_eq_true.1 (List.all_eq_true.1 or_pow_all n (List.mem_range.2 (by omega))) s.toNat (List.mem_range.2 (by omega))) k (List.mem_range.2 (by omega))
  rw [show ((s.toNat : Nat) : Int) = s by omega, decide_eq_true (show s.toNat < 2 ^ n ∧ k < n by omega), Bool.not_true, Bool.false_or] at h1
  exact of_decide_eq_true h1
def crossR_c2 (can : List Bool) (many : Int) (loads : Int) (F : List Int → List Int × Bool) (so : List Int) (k1 : Nat) (k2 : Nat) : Int → Bool := fun v2_1 => decide ((k2 : Int) < loads)
def crossR_b2 (can : List Bool) (many : Int) (loads : Int) (F : List Int → List Int × Bool) (so : List Int) (k1 : Nat) (k2 : Nat) : Int → Bd Int (List Int × Bool) := fun v2_1 => .go (bif ((so.getD k2 0) == (k1 : Int)) then IntKind.i64.wrap (BitVec.ofInt IntKind.i64.bits v2_1 ||| BitVec.ofInt IntKind.i64.bits (IntKind.i64.wrap (1 * 2 ^ (min (k2 : Int).toNat IntKind.i64.bits)))).toNat else v2_1)
def crossR_c1 (can : List Bool) (many : Int) (loads : Int) (F : List Int → List Int × Bool) (so : List Int) (k1 : Nat) : Unit → Bool := fun _ => decide ((k1 : Int) < many)
def crossR_b1 (can : List Bool) (many : Int) (loads : Int) (F : List Int → List Int × Bool) (so : List Int) (k1 : Nat) : Unit → Bd Unit (List Int × Bool) := fun _ => (match loopR (crossR_c2 can many loads F so k1) (crossR_b2 can many loads F so k1) loads.toNat 0 0 with | .brk u2_0 => (bif (u2_0 == 0) || (!(can.getD u2_0.toNat false)) then .ret ([], false) else .go ()) | .ret r => .ret r)
def crossR_c3 (can : List Bool) (many : Int) (loads : Int) (F : List Int → List Int × Bool) (so : List Int) (k3 : Nat) : Unit → Bool := fun _ => decide ((k3 : Int) < many)
def crossR_b3 (can : List Bool) (many : Int) (loads : Int) (F : List Int → List Int × Bool) (so : List Int) (k3 : Nat) : Unit → Bd Unit (List Int × Bool) := fun _ => (bif (F (grownF so (k3 : Int))).2 then .ret ((F (grownF so (k3 : Int))).1, true) else .go ())
def crossR (can : List Bool) (many : Int) (loads : Int) (F : List Int → List Int × Bool) (so : List Int) : List Int × Bool :=
  (bif (so.length : Int) == loads then (match loopR (crossR_c1 can many loads F so) (crossR_b1 can many loads F so) many.toNat 0 () with | .brk () => (so, true) | .ret r => r) else (match loopR (crossR_c3 can many loads F so) (crossR_b3 can many loads F so) many.toNat 0 () with | .brk () => ([], false) | .ret r => r))
theorem crossR_calls (can : List Bool) (many loads : Int) (F : List Int → List Int × Bool) (R : Nat → Prop) (so : List Int) (sv tv : Value) (w : World) (rc : Reads w sv 1 can encBl false) (rs : Reads w tv 1 so encI 0) (hld : 0 ≤ loads ∧ loads ≤ 5) (hmy : 0 ≤ many ∧ many ≤ 5) (hcan : can.length = 2 ^ loads.toNat) (hso : so.length ≤ 5) (hF : CrossK can many loads R F) (hR : (so.length : Int) ≠ loads → R (so.length + 1)) : Calls Tryd.prog 114 #[sv, iv many, iv loads, tv] w fun e w' => ∃ v, e = .returned (.tuple #[v, .bool (crossR can many loads F so).2]) ∧ Below w.heap.size w w' ∧ Reads w' v 1 (crossR can many loads F so).1 encI 0 ∧ (∀ g, vblk v = some g → vblk tv = some g ∨ (w.heap.size ≤ g ∧ g < w'.heap.size)) := by
  refine calls_of_WP (cx := cx0 w (vn [sv, tv]) 2) (n := vn [sv, tv]) (vs := [.s (.ref 0), .s (.int .i64 many), .s (.int .i64 loads), .s (.ref 1)]) (hp := [(0, .sl .ro 4 1 can encBl false), (1, .sl .ro 3 1 so encI 0)]) (nx := 2) tt_ok Tryd.func114 rfl rfl rfl (by kernel_rfl) (HSat_args (vn_one (by simp [rc.one, rs.one])) (by decide) ⟨⟨⟨fun _ => rfl, by decide, rc⟩, (Nat.le_of_ble_eq_true rfl)⟩, ⟨⟨fun _ => rfl, by decide, rs⟩, (Nat.le_of_ble_eq_true rfl)⟩, trivial⟩) (vsOk (by kernel_rfl)) ?_
  have hpos : 0 < 2 ^ loads.toNat := Nat.pow_pos (by decide)
  have hpl := (pow_wrap (n := loads.toNat) (by omega)).2
  have hR1 : ∀ x : Int, ((so.length : Int) == loads) = false → R (grownF so x).length := by
    intro x h1
    rw [grown_len _ (by omega)]; exact hR (beq_eq_false_iff_ne.1 h1)
  refine WP_seq (WP_region (WPO_all tt_ok (by kernel_rfl) ?_))
  refine WP_seq (WP_seq (WP_region (WPO_all tt_ok (by kernel_rfl) ?_)))
  refine WP_cond ((so.length : Int) == loads) (by kernel_rfl) (fun hc2 => ?_) (fun hc2 => ?_)
  · have hc2' := hc2; try simp only [Bool.and_eq_true, Bool.or_eq_true, Bool.and_eq_false_iff, Bool.or_eq_false_iff, Bool.not_eq_true', Bool.not_eq_false', decide_eq_true_eq, decide_eq_false_iff_not, beq_iff_eq, beq_eq_false_iff_ne, bne_iff_ne, bne_eq_false_iff_eq, ne_eq] at hc2'
    refine WP_seq (WP_seq (WP_region (WPO_all tt_ok (by kernel_rfl) ?_)))
    refine WP_loopA (ρ := List Int × Bool) (crossR_c1 can many loads F so) (crossR_b1 can many loads F so) many.toNat () (fun k : Nat => (k : Int)) (fun (ci : Int) (zz : Unit) => ⟨67, [(10, [], .s (.int .i64 ci)), (0, [], .s (.ref 0)), (1, [], .s (.int .i64 many)), (2, [], .s (.int .i64 loads)), (3, [], .s (.ref 1))], [(0, .sl .ro 4 1 can encBl false), (1, .sl .ro 3 1 so encI 0)], 2, []⟩) (fun zz : Unit => ⟨67, [(0, [], .s (.ref 0)), (1, [], .s (.int .i64 many)), (2, [], .s (.int .i64 loads)), (3, [], .s (.ref 1))], [(0, .sl .ro 4 1 can encBl false), (1, .sl .ro 3 1 so encI 0)], 2, []⟩) (fun k zz => True) trivial ⟨0, rfl, Le_sel (ts := [10, 0, 1, 2, 3]) (ids := [0, 1]) (nx := 2) (by kernel_rfl)⟩ ?_ ?_
    · intro k1 zz hn1 hp1 hi1 Q1 hq1 ho1
      refine WP_seq (WP_seq (WP_region (WPO_all tt_ok (by kernel_rfl) ?_)))
      refine WP_cond (decide ((k1 : Int) < many)) (by kernel_rfl) (fun hc3 => ?_) (fun hc3 => ?_)
      rotate_left
      · refine WP_exit ?_
        show Q1 (.exit 0) _
        exact LA_exit hq1 () (loopR_end hi1 hc3) ⟨k1, hn1, hp1⟩ (Le_sel (ts := [0, 1, 2, 3]) (ids := [0, 1]) (nx := 2) (by kernel_rfl))
      have hc3' := of_decide_eq_true hc3
      have hk1 : k1 < many.toNat := by omega
      refine WP_skip ?_
      refine WP_seq (WP_block ?_)
      refine WP_seq (WP_region (WPO_all tt_ok (by kernel_rfl) ?_))
      refine WP_seq (WP_seq (WP_region (WPO_all tt_ok (by kernel_rfl) ?_)))
      refine WP_loopA (ρ := List Int × Bool) (crossR_c2 can many loads F so k1) (crossR_b2 can many loads F so k1) loads.toNat 0 (fun k : Nat => (k : Int)) (fun (ci : Int) (zz : Int) => ⟨67, [(12, [], .s (.int .i64 ci)), (11, [], .s (.int .i64 zz)), (10, [], .s (.int .i64 (k1 : Int))), (0, [], .s (.ref 0)), (1, [], .s (.int .i64 many)), (2, [], .s (.int .i64 loads)), (3, [], .s (.ref 1))], [(0, .sl .ro 4 1 can encBl false), (1, .sl .ro 3 1 so encI 0)], 2, []⟩) (fun zz : Int => ⟨67, [(11, [], .s (.int .i64 zz)), (10, [], .s (.int .i64 (k1 : Int))), (0, [], .s (.ref 0)), (1, [], .s (.int .i64 many)), (2, [], .s (.int .i64 loads)), (3, [], .s (.ref 1))], [(0, .sl .ro 4 1 can encBl false), (1, .sl .ro 3 1 so encI 0)], 2, []⟩) (fun (k2 : Nat) (zz : Int) => 0 ≤ zz ∧ zz < ((2 ^ loads.toNat : Nat) : Int)) ⟨by omega, by omega⟩ ⟨0, rfl, Le_sel (ts := [12, 11, 10, 0, 1, 2, 3]) (ids := [0, 1]) (nx := 2) (by kernel_rfl)⟩ ?_ ?_
      · intro k2 v2_1 hn2 hp2 hi2 Q2 hq2 ho2
        replace hp2 : 0 ≤ v2_1 ∧ v2_1 < ((2 ^ loads.toNat : Nat) : Int) := hp2
        refine WP_seq (WP_seq (WP_region (WPO_all tt_ok (by kernel_rfl) ?_)))
        refine WP_cond (decide ((k2 : Int) < loads)) (by kernel_rfl) (fun hc4 => ?_) (fun hc4 => ?_)
        rotate_left
        · refine WP_exit ?_
          show Q2 (.exit 2) _
          exact LA_exit hq2 v2_1 (loopR_end hi2 hc4) ⟨k2, hn2, hp2⟩ (Le_sel (ts := [11, 10, 0, 1, 2, 3]) (ids := [0, 1]) (nx := 2) (by kernel_rfl))
        have hc4' := of_decide_eq_true hc4
        have hk2 : k2 < loads.toNat := by omega
        refine WP_skip ?_
        refine WP_seq (WP_block ?_)
        refine WP_seq (WP_region (WPO_run tt_ok 2 (by kernel_rfl) ?_))
        refine IX tt_ok (k2 : Int) so.length [] (by kernel_rfl) (fun hG => ⟨by omega, by omega⟩) ?_
        refine WPO_all tt_ok (by kernel_rfl) ?_
        refine WP_join ((so.getD k2 0) == (k1 : Int)) (fun q => ⟨67, [(11, [], .s (.int .i64 (bif q then IntKind.i64.wrap (BitVec.ofInt IntKind.i64.bits v2_1 ||| BitVec.ofInt IntKind.i64.bits (IntKind.i64.wrap (1 * 2 ^ (min (k2 : Int).toNat IntKind.i64.bits)))).toNat else v2_1))), (12, [], .s (.int .i64 (k2 : Int))), (10, [], .s (.int .i64 (k1 : Int))), (0, [], .s (.ref 0)), (1, [], .s (.int .i64 many)), (2, [], .s (.int .i64 loads)), (3, [], .s (.ref 1))], [(0, .sl .ro 4 1 can encBl false), (1, .sl .ro 3 1 so encI 0)], 2, []⟩) (by kernel_rfl) (fun hc6 => ?_) (fun hc6 => ?_) ?_
        · have hc6' := hc6; try simp only [Bool.and_eq_true, Bool.or_eq_true, Bool.and_eq_false_iff, Bool.or_eq_false_iff, Bool.not_eq_true', Bool.not_eq_false', decide_eq_true_eq, decide_eq_false_iff_not, beq_iff_eq, beq_eq_false_iff_ne, bne_iff_ne, bne_eq_false_iff_eq, ne_eq] at hc6'
          refine WP_region (WPO_run tt_ok 2 (by kernel_rfl) ?_)
          refine BIN .shl 3 (.const (.int .i64 1)) (.tmp 37) (.s (.int .i64 1)) (.s (.int .i64 (k2 : Int))) (.s (.int .i64 (IntKind.i64.wrap (1 * 2 ^ (min (k2 : Int).toNat IntKind.i64.bits))))) [] (by kernel_rfl) (by kernel_rfl) (by kernel_rfl) (fun _ => BinOk_shl (by omega)) ?_
          refine WPO_all tt_ok (by kernel_rfl) ?_
          exact Le_sel (ts := [11, 12, 10, 0, 1, 2, 3]) (ids := [0, 1]) (nx := 2) (by kernel_rfl)
        · have hc6' := hc6; try simp only [Bool.and_eq_true, Bool.or_eq_true, Bool.and_eq_false_iff, Bool.or_eq_false_iff, Bool.not_eq_true', Bool.not_eq_false', decide_eq_true_eq, decide_eq_false_iff_not, beq_iff_eq, beq_eq_false_iff_ne, bne_iff_ne, bne_eq_false_iff_eq, ne_eq] at hc6'
          refine WP_skip ?_
          exact Le_sel (ts := [11, 12, 10, 0, 1, 2, 3]) (ids := [0, 1]) (nx := 2) (by kernel_rfl)
        refine WP_region (WPO_all tt_ok (by kernel_rfl) ?_)
        show Q2 .normal _
        exact LA_go hq2 (ci := IntKind.i64.wrap ((k2 : Int) + 1)) (bif ((so.getD k2 0) == (k1 : Int)) then IntKind.i64.wrap (BitVec.ofInt IntKind.i64.bits v2_1 ||| BitVec.ofInt IntKind.i64.bits (IntKind.i64.wrap (1 * 2 ^ (min (k2 : Int).toNat IntKind.i64.bits)))).toNat else v2_1) hk2 (by show _ = ((k2 + 1 : Nat) : Int); rw [wrapI (by omega) (by omega)]; omega) (loopR_go hi2 hk2 hc4 (rfl)) (cond_in (p := fun v => 0 ≤ v ∧ v < ((2 ^ loads.toNat : Nat) : Int)) (or_pow (by omega) hp2 hk2) hp2) (Le_sel (ts := [12, 11, 10, 0, 1, 2, 3]) (ids := [0, 1]) (nx := 2) (by kernel_rfl))
      intro u2_0 hR2 hP2 s' hl
      obtain ⟨kP2, hkP2, hpP2⟩ := hP2
      replace hpP2 : 0 ≤ u2_0 ∧ u2_0 < ((2 ^ loads.toNat : Nat) : Int) := hpP2
      refine WP_le hl ?_
      clear hl s'
      refine WP_seq (WP_region (WPO_run tt_ok 5 (by kernel_rfl) ?_))
      refine IX tt_ok u2_0 can.length [(u2_0 == 0, false)] (by kernel_rfl) (fun hG => (by (try simp only [AllEq, and_true, Bool.and_eq_true, Bool.or_eq_true, Bool.not_eq_true', decide_eq_true_eq, decide_eq_false_iff_not] at hG); constructor <;> omega)) ?_
      refine WPO_all tt_ok (by kernel_rfl) ?_
      refine WP_cond ((u2_0 == 0) || (!(can.getD u2_0.toNat false))) (by kernel_rfl) (fun hc8 => ?_) (fun hc8 => ?_)
      · have hc8' := hc8; try simp only [Bool.and_eq_true, Bool.or_eq_true, Bool.and_eq_false_iff, Bool.or_eq_false_iff, Bool.not_eq_true', Bool.not_eq_false', decide_eq_true_eq, decide_eq_false_iff_not, beq_iff_eq, beq_eq_false_iff_ne, bne_iff_ne, bne_eq_false_iff_eq, ne_eq] at hc8'
        refine WP_seq (WP_region (WPO_all tt_ok (by kernel_rfl) ?_))
        refine WP_ret ?_
        show Q1 .ret _
        refine LA_ret hq1 ?_
        have he9 := loopR_ret (r := ([], false)) hi1 hk1 hc3 (by unfold crossR_b1; simp only [hR2, hc8, cond_true, cond_false])
        exact ⟨.t [(false, [.v (.slice none 0 0)]), (false, [.bool false])], by kernel_rfl, fun nV w' h => ⟨.slice none 0 0, by rw [show crossR can many loads F so = ([], false) from by unfold crossR; simp only [hc2, he9, cond_true, cond_false]]; rfl, h.bel, by rw [show crossR can many loads F so = ([], false) from by unfold crossR; simp only [hc2, he9, cond_true, cond_false]]; exact reads_nil, fun g hg => by cases hg⟩⟩
      have hc8' := hc8; try simp only [Bool.and_eq_true, Bool.or_eq_true, Bool.and_eq_false_iff, Bool.or_eq_false_iff, Bool.not_eq_true', Bool.not_eq_false', decide_eq_true_eq, decide_eq_false_iff_not, beq_iff_eq, beq_eq_false_iff_ne, bne_iff_ne, bne_eq_false_iff_eq, ne_eq] at hc8'
      refine WP_skip ?_
      refine WP_region (WPO_all tt_ok (by kernel_rfl) ?_)
      show Q1 .normal _
      exact LA_go hq1 (ci := IntKind.i64.wrap ((k1 : Int) + 1)) () hk1 (by show _ = ((k1 + 1 : Nat) : Int); rw [wrapI (by omega) (by omega)]; omega) (loopR_go hi1 hk1 hc3 (by unfold crossR_b1; simp only [hR2, hc8, cond_true, cond_false])) trivial (Le_sel (ts := [10, 0, 1, 2, 3]) (ids := [0, 1]) (nx := 2) (by kernel_rfl))
    intro zz hR1 hP1 s' hl
    refine WP_le hl ?_
    clear hl s'
    refine WP_seq (WP_region (WPO_all tt_ok (by kernel_rfl) ?_))
    refine WP_ret ?_
    exact ⟨.t [(false, [.ref 1]), (false, [.bool true])], by kernel_rfl, fun nV w' h => ⟨nV 1, by rw [show crossR can many loads F so = (so, true) from by unfold crossR; simp only [hc2, hR1, cond_true, cond_false]]; rfl, h.bel, by rw [show crossR can many loads F so = (so, true) from by unfold crossR; simp only [hc2, hR1, cond_true, cond_false]]; exact h.reads (id := 1) (kd := .ro) (e := 3) (by kernel_rfl), fun g hg => .inl (by have e2 : nV 1 = tv := h.ini 1 (by show 1 < 2; decide); rw [← e2]; exact hg)⟩⟩
  have hc2' := hc2; try simp only [Bool.and_eq_true, Bool.or_eq_true, Bool.and_eq_false_iff, Bool.or_eq_false_iff, Bool.not_eq_true', Bool.not_eq_false', decide_eq_true_eq, decide_eq_false_iff_not, beq_iff_eq, beq_eq_false_iff_ne, bne_iff_ne, bne_eq_false_iff_eq, ne_eq] at hc2'
  refine WP_skip ?_
  refine WP_seq (WP_seq (WP_region (WPO_all tt_ok (by kernel_rfl) ?_)))
  refine WP_loopA (ρ := List Int × Bool) (crossR_c3 can many loads F so) (crossR_b3 can many loads F so) many.toNat () (fun k : Nat => (k : Int)) (fun (ci : Int) (zz : Unit) => ⟨67, [(13, [], .s (.int .i64 ci)), (0, [], .s (.ref 0)), (1, [], .s (.int .i64 many)), (2, [], .s (.int .i64 loads)), (3, [], .s (.ref 1))], [(0, .sl .ro 4 1 can encBl false), (1, .sl .ro 3 1 so encI 0)], 2, []⟩) (fun zz : Unit => ⟨67, [], [(0, .sl .ro 4 1 can encBl false), (1, .sl .ro 3 1 so encI 0)], 2, []⟩) (fun k zz => True) trivial ⟨0, rfl, Le_sel (ts := [13, 0, 1, 2, 3]) (ids := [0, 1]) (nx := 2) (by kernel_rfl)⟩ ?_ ?_
  · intro k3 zz hn3 hp3 hi3 Q3 hq3 ho3
    refine WP_seq (WP_seq (WP_region (WPO_all tt_ok (by kernel_rfl) ?_)))
    refine WP_cond (decide ((k3 : Int) < many)) (by kernel_rfl) (fun hc10 => ?_) (fun hc10 => ?_)
    rotate_left
    · refine WP_exit ?_
      show Q3 (.exit 4) _
      exact LA_exit hq3 () (loopR_end hi3 hc10) ⟨k3, hn3, hp3⟩ (Le_sel (ts := []) (ids := [0, 1]) (nx := 2) (by kernel_rfl))
    have hc10' := of_decide_eq_true hc10
    have hk3 : k3 < many.toNat := by omega
    refine WP_skip ?_
    refine WP_seq (WP_block ?_)
    refine WP_seq (WP_region (WPO_run tt_ok 5 (by kernel_rfl) ?_))
    refine CALLO 124 [.s (.ref 1), .s (.int .i64 (k3 : Int))] (.s (.ref 2)) 3 1 (grownF so (k3 : Int)) encI 0 2 (by kernel_rfl) (by kernel_rfl) (goes_of (by kernel_rfl)) (by kernel_rfl) (by kernel_rfl) (fun _ => rfl) ((fun nV w h => grownF_calls (nV 1) so (k3 : Int) w (h.reads (id := 1) (kd := .ro) (e := 3) (by kernel_rfl)) (by first | assumption | omega))) ?_
    refine CALLTK 114 [.s (.ref 0), .s (.int .i64 many), .s (.int .i64 loads), .s (.ref 2)] (fun sv2 => .t [(false, [.v sv2]), (false, [.bool (F (grownF so (k3 : Int))).2])]) 2 3 1 (grownF so (k3 : Int)) encI 0 1 (F (grownF so (k3 : Int))).1 encI 0 (by kernel_rfl) (by kernel_rfl) (goes_of (by kernel_rfl)) (fun _ => (by kernel_rfl)) (fun _ => (by kernel_rfl)) (fun _ _ _ => rfl) (fun nV w h => hF (nV 0) (nV 2) _ w (hR1 _ (by assumption)) (h.reads (id := 0) (kd := .ro) (e := 4) (by kernel_rfl)) (h.reads (id := 2) (kd := .own) (e := 3) (by kernel_rfl))) (fun sv2 => ?_)
    refine WPO_all tt_ok (by kernel_rfl) ?_
    refine WP_seq (WP_region (WPO_all tt_ok (by kernel_rfl) ?_))
    refine WP_cond ((F (grownF so (k3 : Int))).2) (by kernel_rfl) (fun hc12 => ?_) (fun hc12 => ?_)
    · refine WP_seq (WP_region (WPO_all tt_ok (by kernel_rfl) ?_))
      refine WP_ret ?_
      show Q3 .ret _
      refine LA_ret hq3 ?_
      have he13 := loopR_ret (r := ((F (grownF so (k3 : Int))).1, true)) hi3 hk3 hc10 (by unfold crossR_b3; simp only [hc12, cond_true, cond_false])
      exact ⟨.t [(false, [.v sv2]), (false, [.bool true])], by kernel_rfl, fun nV w' h => ⟨sv2, by rw [show crossR can many loads F so = ((F (grownF so (k3 : Int))).1, true) from by unfold crossR; simp only [hc2, he13, cond_true, cond_false]]; rfl, h.bel, by rw [show crossR can many loads F so = ((F (grownF so (k3 : Int))).1, true) from by unfold crossR; simp only [hc2, he13, cond_true, cond_false]]; exact (slE_lt (id := 3) (v := sv2) (sz := 1) (li := (F (grownF so (k3 : Int))).1) (enc := encI) (z := 0) h (by kernel_rfl)).1, fun g hg => .inr ((slE_lt (id := 3) (v := sv2) (sz := 1) (li := (F (grownF so (k3 : Int))).1) (enc := encI) (z := 0) h (by kernel_rfl)).2 g hg)⟩⟩
    refine WP_skip ?_
    refine WP_region (WPO_all tt_ok (by kernel_rfl) ?_)
    show Q3 .normal _
    exact LA_go hq3 (ci := IntKind.i64.wrap ((k3 : Int) + 1)) () hk3 (by show _ = ((k3 + 1 : Nat) : Int); rw [wrapI (by omega) (by omega)]; omega) (loopR_go hi3 hk3 hc10 (by unfold crossR_b3; simp only [hc12, cond_true, cond_false])) trivial (Le_sel (ts := [13, 0, 1, 2, 3]) (ids := [0, 1]) (nx := 2) (by kernel_rfl))
  intro zz hR3 hP3 s' hl
  refine WP_le hl ?_
  clear hl s'
  refine WP_seq (WP_region (WPO_all tt_ok (by kernel_rfl) ?_))
  refine WP_ret ?_
  exact ⟨.t [(false, [.v (.slice none 0 0)]), (false, [.bool false])], by kernel_rfl, fun nV w' h => ⟨.slice none 0 0, by rw [show crossR can many loads F so = ([], false) from by unfold crossR; simp only [hc2, hR3, cond_true, cond_false]]; rfl, h.bel, by rw [show crossR can many loads F so = ([], false) from by unfold crossR; simp only [hc2, hR3, cond_true, cond_false]]; exact reads_nil, fun g hg => by cases hg⟩⟩
end Go.Proofs.YthfnedbpmdkdjaaDoor.D
namespace Go.Proofs.YthfnedbpmdkdjaaDoor.D
open Go Go.RowKit Go.Proofs.YthfnedbpmdkdjaaDoor.Eng Go.Proofs.YthfnedbpmdkdjaaDoor.Cm
set_option linter.unusedVariables false
set_option linter.unusedSimpArgs false
set_option linter.unusedSectionVars false
def crossRD (can : List Bool) (many loads : Int) : Nat → List Int → List Int × Bool
  | 0 => crossR can many loads fun _ => ([], false)
  | r + 1 => crossR can many loads (crossRD can many loads r)
theorem crossRD_ok {can : List Bool} {many loads : Int} (hld : 0 ≤ loads ∧ loads ≤ 5) (hmy : 0 ≤ many ∧ many ≤ 5) (hcan : can.length = 2 ^ loads.toNat) : ∀ r : Nat, CrossK can many loads (fun n => (n : Int) + r = loads) (crossRD can many loads r) := by
  intro r
  induction r with
  | zero =>
    intro sv tv so w hR rc rs
    exact crossR_calls can many loads (fun _ => ([], false)) (fun _ => False) so sv tv w rc rs hld hmy hcan (by omega) (fun _ _ _ _ h => h.elim) (fun h => h (by omega))
  | succ r ih =>
    intro sv tv so w hR rc rs
    exact crossR_calls can many loads (crossRD can many loads r) (fun n => (n : Int) + r = loads) so sv tv w rc rs hld hmy hcan (by omega) ih (fun h => by omega)
theorem crossR_top {can : List Bool} {many : Int} {n : Nat} (hld : n ≤ 5) (hmy : 0 ≤ many ∧ many ≤ 5) (hcan : can.length = 2 ^ n) (sv : Value) (w : World) (rc : Reads w sv 1 can encBl false) :
    Calls Tryd.prog 114 #[sv, iv many, iv (n : Int), .slice none 0 0] w fun e w' => ∃ v, e = .returned (.tuple #[v, .bool (crossRD can many (n : Int) n []).2]) ∧ Below w.heap.size w w' ∧ Reads w' v 1 (crossRD can many (n : Int) n []).1 encI 0 ∧ (∀ g, vblk v = some g → w.heap.size ≤ g ∧ g < w'.heap.size) :=
  (crossRD_ok (by omega) hmy (by rw [Int.toNat_natCast]; exact hcan) n sv (.slice none 0 0) [] w (by show (0 : Int) + n = n; omega) rc reads_nil).mono fun e w' ⟨v, h1, h2, h3, h4⟩ => ⟨v, h1, h2, h3, fun g hg => (h4 g hg).resolve_left (fun h => by cases h)⟩
def FewestR_c1 (b : DBook) (k1 : Nat) : Unit → Bool := fun _ => decide ((1 + (k1 : Int)) ≤ (b.loads.length : Int))
def FewestR_b1 (b : DBook) (k1 : Nat) : Unit → Bd Unit ((List Int) × Int) := fun _ => (bif (crossRD (setsR b) (1 + (k1 : Int)) (b.loads.length : Int) b.loads.length []).2 then .ret ((crossRD (setsR b) (1 + (k1 : Int)) (b.loads.length : Int) b.loads.length []).1, 0) else .go ())
def FewestR (b : DBook) : (List Int) × Int :=
  (bif (checkR b) != 0 then ([], (checkR b)) else (match loopR (FewestR_c1 b) (FewestR_b1 b) b.loads.length 0 () with | .brk () => ([], 4) | .ret r => r))
theorem FewestR_calls (g0 : Value) (b : DBook) (w : World) (r0 : Reads w g0 3 b.loads encLoad zLoad)  : Calls Tryd.prog 80 #[.agg #[g0, iv b.rule, iv b.most]] w fun e w' => ∃ v0, e = .returned (.tuple #[v0, iv (FewestR b).2]) ∧ Below w.heap.size w w' ∧ Reads w' v0 1 (FewestR b).1 encI 0 ∧ (∀ g, vblk v0 = some g → w.heap.size ≤ g ∧ g < w'.heap.size) := by
  refine calls_of_WP (cx := cx0 w (vn [g0]) 1) (n := vn [g0]) (vs := [.g [.ref 0, .int .i64 b.rule, .int .i64 b.most]]) (hp := [(0, .sl .ro 61 3 b.loads encLoad zLoad)]) (nx := 1) tt_ok Tryd.func80 rfl rfl rfl (by kernel_rfl) (HSat_args (vn_one (by simp [r0.one])) (Nat.le_refl _) ⟨⟨⟨fun _ => rfl, by decide, r0⟩, (Nat.le_of_ble_eq_true rfl)⟩, trivial⟩) (vsOk (by kernel_rfl)) ?_
  have hl0 := Reads.len r0
  refine WP_seq (WP_region (WPO_all tt_ok (by kernel_rfl) ?_))
  refine WP_seq (WP_seq (WP_region (WPO_run tt_ok 1 (by kernel_rfl) ?_)))
  refine CALL 74 [.g [.ref 0, .int .i64 b.rule, .int .i64 b.most]] (.s (.int .i64 (checkR b))) [] (by kernel_rfl) (goes_of (by kernel_rfl)) (by kernel_rfl) (by kernel_rfl) (fun hG nV w h => checkR_calls (nV 0) b w (h.reads (id := 0) (kd := .ro) (e := 61) (by kernel_rfl)) ) ?_
  refine WPO_all tt_ok (by kernel_rfl) ?_
  refine WP_seq (WP_region (WPO_all tt_ok (by kernel_rfl) ?_))
  refine WP_cond ((checkR b) != 0) (by kernel_rfl) (fun hc2 => ?_) (fun hc2 => ?_)
  · have hc2' := hc2; try simp only [Bool.and_eq_true, Bool.or_eq_true, Bool.and_eq_false_iff, Bool.or_eq_false_iff, Bool.not_eq_true', Bool.not_eq_false', decide_eq_true_eq, decide_eq_false_iff_not, beq_iff_eq, beq_eq_false_iff_ne, bne_iff_ne, bne_eq_false_iff_eq, ne_eq] at hc2'
    refine WP_seq (WP_region (WPO_all tt_ok (by kernel_rfl) ?_))
    refine WP_ret ?_
    exact ⟨.t [(false, [.v (.slice none 0 0)]), (false, [.int .i64 (checkR b)])], by kernel_rfl, fun nV w' h => ⟨.slice none 0 0, by rw [show FewestR b = ([], (checkR b)) from by unfold FewestR; simp only [hc2, cond_true, cond_false]]; rfl, h.bel, by rw [show FewestR b = ([], (checkR b)) from by unfold FewestR; simp only [hc2, cond_true, cond_false]]; exact reads_nil, fun g hg => by cases hg⟩⟩
  have hc2' := hc2; try simp only [Bool.and_eq_true, Bool.or_eq_true, Bool.and_eq_false_iff, Bool.or_eq_false_iff, Bool.not_eq_true', Bool.not_eq_false', decide_eq_true_eq, decide_eq_false_iff_not, beq_iff_eq, beq_eq_false_iff_ne, bne_iff_ne, bne_eq_false_iff_eq, ne_eq] at hc2'
  refine WP_skip ?_
  have hb5 := checkR_five (bne_eq_false_iff_eq.1 (by assumption))
  have hsl := setsR_len hb5
  have hpl := (pow_wrap hb5).2
  refine WP_seq (WP_region (WPO_run tt_ok 1 (by kernel_rfl) ?_))
  refine CALLO 113 [.g [.ref 0, .int .i64 b.rule, .int .i64 b.most]] (.s (.ref 2)) 4 1 (setsR b) encBl false 2 (by kernel_rfl) (by kernel_rfl) (goes_of (by kernel_rfl)) (by kernel_rfl) (by kernel_rfl) (fun _ => rfl) ((fun nV w h => setsR_calls (nV 0) b w (h.reads (id := 0) (kd := .ro) (e := 61) (by kernel_rfl)) (by first | assumption | omega))) ?_
  refine WPO_all tt_ok (by kernel_rfl) ?_
  refine WP_seq (WP_seq (WP_region (WPO_all tt_ok (by kernel_rfl) ?_)))
  refine WP_loopA (ρ := (List Int) × Int) (FewestR_c1 b) (FewestR_b1 b) b.loads.length () (fun k : Nat => (1 + (k : Int))) (fun (ci : Int) (zz : Unit) => ⟨34, [(6, [], .s (.int .i64 ci)), (5, [], .s (.ref 2)), (1, [], .s (.p 1 0))], [(2, .sl .own 4 1 (setsR b) encBl false), (1, .box 24 [.ref 0, .int .i64 b.rule, .int .i64 b.most]), (0, .sl .ro 61 3 b.loads encLoad zLoad)], 3, []⟩) (fun zz : Unit => ⟨34, [], [(2, .sl .own 4 1 (setsR b) encBl false), (1, .box 24 [.ref 0, .int .i64 b.rule, .int .i64 b.most]), (0, .sl .ro 61 3 b.loads encLoad zLoad)], 3, []⟩) (fun k zz => True) trivial ⟨1, by simp, Le_sel (ts := [6, 5, 1]) (ids := [2, 1, 0]) (nx := 3) (by kernel_rfl)⟩ ?_ ?_
  · intro k1 zz hn1 hp1 hi1 Q1 hq1 ho1
    refine WP_seq (WP_seq (WP_region (WPO_all tt_ok (by kernel_rfl) ?_)))
    refine WP_cond (decide ((1 + (k1 : Int)) ≤ (b.loads.length : Int))) (by kernel_rfl) (fun hc3 => ?_) (fun hc3 => ?_)
    rotate_left
    · refine WP_exit ?_
      show Q1 (.exit 0) _
      exact LA_exit hq1 () (loopR_end hi1 hc3) ⟨k1, hn1, hp1⟩ (Le_sel (ts := []) (ids := [2, 1, 0]) (nx := 3) (by kernel_rfl))
    have hc3' := of_decide_eq_true hc3
    have hk1 : k1 < b.loads.length := by omega
    refine WP_skip ?_
    refine WP_seq (WP_block ?_)
    refine WP_seq (WP_region (WPO_run tt_ok 5 (by kernel_rfl) ?_))
    refine CALLSL 114 [.s (.ref 2), .s (.int .i64 (1 + (k1 : Int))), .s (.int .i64 (b.loads.length : Int)), .s (.v (.slice none 0 0))] (fun sv2 => .t [(false, [.v sv2]), (false, [.bool (crossRD (setsR b) (1 + (k1 : Int)) (b.loads.length : Int) b.loads.length []).2])]) 1 (crossRD (setsR b) (1 + (k1 : Int)) (b.loads.length : Int) b.loads.length []).1 encI 0 (by decide) (by kernel_rfl) (goes_of (by kernel_rfl)) (fun _ => (by kernel_rfl)) (fun _ => (by kernel_rfl)) (fun _ _ _ => rfl) (fun nV w h => crossR_top (n := b.loads.length) (by first | assumption | omega) (by omega) (by first | assumption | omega) (nV 2) w (h.reads (id := 2) (kd := .own) (e := 4) (by kernel_rfl))) (fun sv2 => ?_)
    refine WPO_all tt_ok (by kernel_rfl) ?_
    refine WP_seq (WP_region (WPO_all tt_ok (by kernel_rfl) ?_))
    refine WP_cond ((crossRD (setsR b) (1 + (k1 : Int)) (b.loads.length : Int) b.loads.length []).2) (by kernel_rfl) (fun hc5 => ?_) (fun hc5 => ?_)
    · refine WP_seq (WP_region (WPO_all tt_ok (by kernel_rfl) ?_))
      refine WP_ret ?_
      show Q1 .ret _
      refine LA_ret hq1 ?_
      have he6 := loopR_ret (r := ((crossRD (setsR b) (1 + (k1 : Int)) (b.loads.length : Int) b.loads.length []).1, 0)) hi1 hk1 hc3 (by unfold FewestR_b1; simp only [hc5, cond_true, cond_false])
      exact ⟨.t [(false, [.v sv2]), (false, [.int .i64 0])], by kernel_rfl, fun nV w' h => ⟨sv2, by rw [show FewestR b = ((crossRD (setsR b) (1 + (k1 : Int)) (b.loads.length : Int) b.loads.length []).1, 0) from by unfold FewestR; simp only [hc2, he6, cond_true, cond_false]]; rfl, h.bel, by rw [show FewestR b = ((crossRD (setsR b) (1 + (k1 : Int)) (b.loads.length : Int) b.loads.length []).1, 0) from by unfold FewestR; simp only [hc2, he6, cond_true, cond_false]]; exact (slE_lt (id := 3) (v := sv2) (sz := 1) (li := (crossRD (setsR b) (1 + (k1 : Int)) (b.loads.length : Int) b.loads.length []).1) (enc := encI) (z := 0) h (by kernel_rfl)).1, (slE_lt (id := 3) (v := sv2) (sz := 1) (li := (crossRD (setsR b) (1 + (k1 : Int)) (b.loads.length : Int) b.loads.length []).1) (enc := encI) (z := 0) h (by kernel_rfl)).2⟩⟩
    refine WP_skip ?_
    refine WP_region (WPO_all tt_ok (by kernel_rfl) ?_)
    show Q1 .normal _
    exact LA_go hq1 (ci := IntKind.i64.wrap ((1 + (k1 : Int)) + 1)) () hk1 (by show _ = (1 + ((k1 + 1 : Nat) : Int)); rw [wrapI (by omega) (by omega)]; omega) (loopR_go hi1 hk1 hc3 (by unfold FewestR_b1; simp only [hc5, cond_true, cond_false])) trivial (Le_sel (ts := [6, 5, 1]) (ids := [2, 1, 0]) (nx := 3) (by kernel_rfl))
  intro zz hR1 hP1 s' hl
  refine WP_le hl ?_
  clear hl s'
  refine WP_seq (WP_region (WPO_all tt_ok (by kernel_rfl) ?_))
  refine WP_ret ?_
  exact ⟨.t [(false, [.v (.slice none 0 0)]), (false, [.int .i64 4])], by kernel_rfl, fun nV w' h => ⟨.slice none 0 0, by rw [show FewestR b = ([], 4) from by unfold FewestR; simp only [hc2, hR1, cond_true, cond_false]]; rfl, h.bel, by rw [show FewestR b = ([], 4) from by unfold FewestR; simp only [hc2, hR1, cond_true, cond_false]]; exact reads_nil, fun g hg => by cases hg⟩⟩
def NeverR_c1 (b : DBook) (k1 : Nat) : Int → Bool := fun v1_1 => decide ((k1 : Int) < ((setsR b).length : Int))
def NeverR_b1 (b : DBook) (k1 : Nat) : Int → Bd Int ((List Int) × Int) := fun v1_1 => .go (bif ((setsR b).getD k1 false) then IntKind.i64.wrap (BitVec.ofInt IntKind.i64.bits v1_1 ||| BitVec.ofInt IntKind.i64.bits (k1 : Int)).toNat else v1_1)
def NeverR (b : DBook) : (List Int) × Int :=
  (bif (checkR b) != 0 then ([], (checkR b)) else (match loopR (NeverR_c1 b) (NeverR_b1 b) (setsR b).length 0 0 with | .brk u1_0 => ((membersF (IntKind.i64.wrap ((IntKind.i64.wrap ((IntKind.i64.wrap (1 * 2 ^ (min (b.loads.length : Int).toNat IntKind.i64.bits))) - 1)) - u1_0)) (b.loads.length : Int)), 0) | .ret r => r))
theorem NeverR_calls (g0 : Value) (b : DBook) (w : World) (r0 : Reads w g0 3 b.loads encLoad zLoad)  : Calls Tryd.prog 81 #[.agg #[g0, iv b.rule, iv b.most]] w fun e w' => ∃ v0, e = .returned (.tuple #[v0, iv (NeverR b).2]) ∧ Below w.heap.size w w' ∧ w'.ownsRow w.heap.size 3 1 v0 (NeverR b).1.length (flat (NeverR b).1 encI) := by
  refine calls_of_WP (cx := cx0 w (vn [g0]) 1) (n := vn [g0]) (vs := [.g [.ref 0, .int .i64 b.rule, .int .i64 b.most]]) (hp := [(0, .sl .ro 61 3 b.loads encLoad zLoad)]) (nx := 1) tt_ok Tryd.func81 rfl rfl rfl (by kernel_rfl) (HSat_args (vn_one (by simp [r0.one])) (Nat.le_refl _) ⟨⟨⟨fun _ => rfl, by decide, r0⟩, (Nat.le_of_ble_eq_true rfl)⟩, trivial⟩) (vsOk (by kernel_rfl)) ?_
  have hl0 := Reads.len r0
  refine WP_seq (WP_region (WPO_all tt_ok (by kernel_rfl) ?_))
  refine WP_seq (WP_seq (WP_region (WPO_run tt_ok 1 (by kernel_rfl) ?_)))
  refine CALL 74 [.g [.ref 0, .int .i64 b.rule, .int .i64 b.most]] (.s (.int .i64 (checkR b))) [] (by kernel_rfl) (goes_of (by kernel_rfl)) (by kernel_rfl) (by kernel_rfl) (fun hG nV w h => checkR_calls (nV 0) b w (h.reads (id := 0) (kd := .ro) (e := 61) (by kernel_rfl)) ) ?_
  refine WPO_all tt_ok (by kernel_rfl) ?_
  refine WP_seq (WP_region (WPO_all tt_ok (by kernel_rfl) ?_))
  refine WP_cond ((checkR b) != 0) (by kernel_rfl) (fun hc2 => ?_) (fun hc2 => ?_)
  · have hc2' := hc2; try simp only [Bool.and_eq_true, Bool.or_eq_true, Bool.and_eq_false_iff, Bool.or_eq_false_iff, Bool.not_eq_true', Bool.not_eq_false', decide_eq_true_eq, decide_eq_false_iff_not, beq_iff_eq, beq_eq_false_iff_ne, bne_iff_ne, bne_eq_false_iff_eq, ne_eq] at hc2'
    refine WP_seq (WP_region (WPO_all tt_ok (by kernel_rfl) ?_))
    refine WP_ret ?_
    exact ⟨.t [(false, [.v (.slice none 0 0)]), (false, [.int .i64 (checkR b)])], by kernel_rfl, fun nV w' h => ⟨.slice none 0 0, by rw [show NeverR b = ([], (checkR b)) from by unfold NeverR; simp only [hc2, cond_true, cond_false]]; rfl, h.bel, by rw [show NeverR b = ([], (checkR b)) from by unfold NeverR; simp only [hc2, cond_true, cond_false]]; exact own_nil _ _ _ _ _⟩⟩
  have hc2' := hc2; try simp only [Bool.and_eq_true, Bool.or_eq_true, Bool.and_eq_false_iff, Bool.or_eq_false_iff, Bool.not_eq_true', Bool.not_eq_false', decide_eq_true_eq, decide_eq_false_iff_not, beq_iff_eq, beq_eq_false_iff_ne, bne_iff_ne, bne_eq_false_iff_eq, ne_eq] at hc2'
  refine WP_skip ?_
  have hb5 := checkR_five (bne_eq_false_iff_eq.1 (by assumption))
  have hsl := setsR_len hb5
  have hpl := (pow_wrap hb5).2
  refine WP_seq (WP_region (WPO_run tt_ok 1 (by kernel_rfl) ?_))
  refine CALLO 113 [.g [.ref 0, .int .i64 b.rule, .int .i64 b.most]] (.s (.ref 2)) 4 1 (setsR b) encBl false 2 (by kernel_rfl) (by kernel_rfl) (goes_of (by kernel_rfl)) (by kernel_rfl) (by kernel_rfl) (fun _ => rfl) ((fun nV w h => setsR_calls (nV 0) b w (h.reads (id := 0) (kd := .ro) (e := 61) (by kernel_rfl)) (by first | assumption | omega))) ?_
  refine WPO_all tt_ok (by kernel_rfl) ?_
  refine WP_seq (WP_seq (WP_region (WPO_all tt_ok (by kernel_rfl) ?_)))
  refine WP_fact (p := ((setsR b).length : Int) ≤ 9223372036854775807) (fun nV aV wV hs => Reads.len (sz := 1) (enc := encBl) (z := false) (hs.heap.reads (id := 2) (kd := .own) (e := 4) (by kernel_rfl))) (fun hN1 => ?_)
  refine WP_loopA (ρ := (List Int) × Int) (NeverR_c1 b) (NeverR_b1 b) (setsR b).length 0 (fun k : Nat => (k : Int)) (fun (ci : Int) (zz : Int) => ⟨39, [(7, [], .s (.int .i64 ci)), (6, [], .s (.int .i64 zz)), (5, [], .s (.ref 2)), (1, [], .s (.p 1 0))], [(2, .sl .own 4 1 (setsR b) encBl false), (1, .box 24 [.ref 0, .int .i64 b.rule, .int .i64 b.most]), (0, .sl .ro 61 3 b.loads encLoad zLoad)], 3, []⟩) (fun zz : Int => ⟨39, [(6, [], .s (.int .i64 zz)), (1, [], .s (.p 1 0))], [(2, .sl .own 4 1 (setsR b) encBl false), (1, .box 24 [.ref 0, .int .i64 b.rule, .int .i64 b.most]), (0, .sl .ro 61 3 b.loads encLoad zLoad)], 3, []⟩) (fun k zz => True) trivial ⟨0, rfl, Le_sel (ts := [7, 6, 5, 1]) (ids := [2, 1, 0]) (nx := 3) (by kernel_rfl)⟩ ?_ ?_
  · intro k1 v1_1 hn1 hp1 hi1 Q1 hq1 ho1
    refine WP_seq (WP_seq (WP_region (WPO_all tt_ok (by kernel_rfl) ?_)))
    refine WP_cond (decide ((k1 : Int) < ((setsR b).length : Int))) (by kernel_rfl) (fun hc3 => ?_) (fun hc3 => ?_)
    rotate_left
    · refine WP_exit ?_
      show Q1 (.exit 0) _
      exact LA_exit hq1 v1_1 (loopR_end hi1 hc3) ⟨k1, hn1, hp1⟩ (Le_sel (ts := [6, 1]) (ids := [2, 1, 0]) (nx := 3) (by kernel_rfl))
    have hc3' := of_decide_eq_true hc3
    have hk1 : k1 < (setsR b).length := by omega
    refine WP_skip ?_
    refine WP_seq (WP_block ?_)
    refine WP_seq (WP_region (WPO_run tt_ok 2 (by kernel_rfl) ?_))
    refine IX tt_ok (k1 : Int) (setsR b).length [] (by kernel_rfl) (fun hG => ⟨by omega, by omega⟩) ?_
    refine WPO_all tt_ok (by kernel_rfl) ?_
    refine WP_join (((setsR b).getD k1 false)) (fun q => ⟨39, [(6, [], .s (.int .i64 (bif q then IntKind.i64.wrap (BitVec.ofInt IntKind.i64.bits v1_1 ||| BitVec.ofInt IntKind.i64.bits (k1 : Int)).toNat else v1_1))), (7, [], .s (.int .i64 (k1 : Int))), (5, [], .s (.ref 2)), (1, [], .s (.p 1 0))], [(2, .sl .own 4 1 (setsR b) encBl false), (1, .box 24 [.ref 0, .int .i64 b.rule, .int .i64 b.most]), (0, .sl .ro 61 3 b.loads encLoad zLoad)], 3, []⟩) (by kernel_rfl) (fun hc5 => ?_) (fun hc5 => ?_) ?_
    · refine WP_region (WPO_all tt_ok (by kernel_rfl) ?_)
      exact Le_sel (ts := [6, 7, 5, 1]) (ids := [2, 1, 0]) (nx := 3) (by kernel_rfl)
    · refine WP_skip ?_
      exact Le_sel (ts := [6, 7, 5, 1]) (ids := [2, 1, 0]) (nx := 3) (by kernel_rfl)
    refine WP_region (WPO_all tt_ok (by kernel_rfl) ?_)
    show Q1 .normal _
    exact LA_go hq1 (ci := IntKind.i64.wrap ((k1 : Int) + 1)) (bif ((setsR b).getD k1 false) then IntKind.i64.wrap (BitVec.ofInt IntKind.i64.bits v1_1 ||| BitVec.ofInt IntKind.i64.bits (k1 : Int)).toNat else v1_1) hk1 (by show _ = ((k1 + 1 : Nat) : Int); rw [wrapI (by omega) (by omega)]; omega) (loopR_go hi1 hk1 hc3 (rfl)) trivial (Le_sel (ts := [7, 6, 5, 1]) (ids := [2, 1, 0]) (nx := 3) (by kernel_rfl))
  intro u1_0 hR1 hP1 s' hl
  refine WP_le hl ?_
  clear hl s'
  refine WP_seq (WP_drawH [] (by kernel_rfl) (by kernel_rfl) ?_)
  refine H_run tt_ok [0, 1, 2] (f' := 10) (by kernel_rfl) (by kernel_rfl) (by kernel_rfl) ?_
  refine H_BIN 3 .shl 3 (.const (.int .i64 1)) (.tmp 30) (.s (.int .i64 1)) (.s (.int .i64 (b.loads.length : Int))) (.s (.int .i64 (IntKind.i64.wrap (1 * 2 ^ (min (b.loads.length : Int).toNat IntKind.i64.bits))))) [] (by kernel_rfl) (by kernel_rfl) (by kernel_rfl) (fun _ _ => BinOk_shl (by omega)) (by kernel_rfl) (by kernel_rfl) ?_
  refine H_run tt_ok [4, 5, 6, 7, 8, 9] (f' := 3) (by kernel_rfl) (by kernel_rfl) (by kernel_rfl) ?_
  refine H_step 10 (by kernel_rfl) (by kernel_rfl) (fun hfz cx' hx1 hx2 => ?_)
  refine CALLO 57 [.s (.int .i64 (IntKind.i64.wrap ((IntKind.i64.wrap ((IntKind.i64.wrap (1 * 2 ^ (min (b.loads.length : Int).toNat IntKind.i64.bits))) - 1)) - u1_0))), .s (.int .i64 (b.loads.length : Int))] (.s (.ref 3)) 3 1 (membersF (IntKind.i64.wrap ((IntKind.i64.wrap ((IntKind.i64.wrap (1 * 2 ^ (min (b.loads.length : Int).toNat IntKind.i64.bits))) - 1)) - u1_0)) (b.loads.length : Int)) encI 0 3 (by kernel_rfl) (by kernel_rfl) (goes_of (by kernel_rfl)) (by kernel_rfl) (by kernel_rfl) (fun _ => rfl) ((fun nV w h => membersF_calls  (IntKind.i64.wrap ((IntKind.i64.wrap ((IntKind.i64.wrap (1 * 2 ^ (min (b.loads.length : Int).toNat IntKind.i64.bits))) - 1)) - u1_0)) (b.loads.length : Int) w  (by first | assumption | omega))) ?_
  refine WPO_end (by kernel_rfl) ⟨rfl, (hfz.fnds [2, 1, 0] (by kernel_rfl) ⟨by kernel_rfl, by kernel_rfl, by kernel_rfl, trivial⟩ (by kernel_rfl)), ?_⟩
  refine H_run tt_ok [11, 12] (f' := 0) (by kernel_rfl) (by kernel_rfl) (by kernel_rfl) ?_
  refine H_done (by kernel_rfl) ?_
  refine WP_ret ?_
  exact ⟨.t [(false, [.ref 3]), (false, [.int .i64 0])], by kernel_rfl, fun nV w' h => ⟨nV 3, by rw [show NeverR b = ((membersF (IntKind.i64.wrap ((IntKind.i64.wrap ((IntKind.i64.wrap (1 * 2 ^ (min (b.loads.length : Int).toNat IntKind.i64.bits))) - 1)) - u1_0)) (b.loads.length : Int)), 0) from by unfold NeverR; simp only [hc2, hR1, cond_true, cond_false]]; rfl, h.bel, by rw [show NeverR b = ((membersF (IntKind.i64.wrap ((IntKind.i64.wrap ((IntKind.i64.wrap (1 * 2 ^ (min (b.loads.length : Int).toNat IntKind.i64.bits))) - 1)) - u1_0)) (b.loads.length : Int)), 0) from by unfold NeverR; simp only [hc2, hR1, cond_true, cond_false]]; exact own_of (z := 0) h (by kernel_rfl)⟩⟩
end Go.Proofs.YthfnedbpmdkdjaaDoor.D
namespace Go.Proofs.YthfnedbpmdkdjaaDoor.D
open Go Go.RowKit Go.Proofs.YthfnedbpmdkdjaaDoor.Eng Go.Proofs.YthfnedbpmdkdjaaDoor.Cm
set_option linter.unusedVariables false
set_option linter.unusedSimpArgs false
set_option linter.unusedSectionVars false
def weighedR (b : DBook) (load : Int) (weight : Int) : DBook :=
  (⟨(([] : List Load) ++ b.loads).set load.toNat (⟨(pointF weight), ((([] : List Load) ++ b.loads).getD load.toNat zLoad).lanes⟩ : Load), b.rule, b.most⟩ : DBook)
theorem weighedR_calls (g0 : Value) (b : DBook) (load : Int) (weight : Int) (w : World) (r0 : Reads w g0 3 b.loads encLoad zLoad) (hat : 0 ≤ load ∧ load < b.loads.length) (hb5 : b.loads.length ≤ 5) : Calls Tryd.prog 115 #[.agg #[g0, iv b.rule, iv b.most], iv load, iv weight] w fun e w' => ∃ v0, e = .returned (.agg #[v0, iv (weighedR b load weight).rule, iv (weighedR b load weight).most]) ∧ Below w.heap.size w w' ∧ w'.ownsRow w.heap.size 61 3 v0 (weighedR b load weight).loads.length (flat (weighedR b load weight).loads encLoad) := by
  refine calls_of_WP (cx := cx0 w (vn [g0]) 1) (n := vn [g0]) (vs := [.g [.ref 0, .int .i64 b.rule, .int .i64 b.most], .s (.int .i64 load), .s (.int .i64 weight)]) (hp := [(0, .sl .ro 61 3 b.loads encLoad zLoad)]) (nx := 1) tt_ok Tryd.func115 rfl rfl rfl (by kernel_rfl) (HSat_args (vn_one (by simp [r0.one])) (Nat.le_refl _) ⟨⟨⟨fun _ => rfl, by decide, r0⟩, (Nat.le_of_ble_eq_true rfl)⟩, trivial⟩) (vsOk (by kernel_rfl)) ?_
  have hl0 := Reads.len r0
  have hla : (([] : List Load) ++ b.loads).length = b.loads.length := rfl
  refine WP_seq (WP_region (WPO_all tt_ok (by kernel_rfl) ?_))
  refine WP_seq (WP_region (WPO_all tt_ok (by kernel_rfl) ?_))
  refine WP_seq (WP_region (LIT tt_ok (by kernel_rfl) ?_))
  refine LITSL 4 61 0 3 [] ([] : List Load) encLoad zLoad (by kernel_rfl) rfl (fun _ => rfl) (fun n => rfl) ?_
  refine WPO_run tt_ok 2 (by kernel_rfl) ?_
  refine APPS tt_ok (.s (.ref 4)) (.s (.ref 0)) 22 61 (some 12) 3 ([] : List Load) b.loads encLoad zLoad (by kernel_rfl) (by kernel_rfl) (by kernel_rfl) (by kernel_rfl) (.inr ⟨4, rfl, (by kernel_rfl)⟩) ⟨0, .ro, rfl, (by kernel_rfl)⟩ (fun y => rfl) (fun y => List.all_eq_true.1 rfl) (fun i hi => (by have hby : (tyL tt 61).map (·.bytes) = some 24 := (by kernel_rfl); rw [hi] at hby; simp only [Option.map_some, Option.some.injEq] at hby; rw [hby]; simp only [List.length_append, List.length_cons, List.length_nil]; omega)) ?_
  refine WPO_all tt_ok (by kernel_rfl) ?_
  refine WP_seq (WP_drawH [5] (by kernel_rfl) (by kernel_rfl) ?_)
  refine H_run tt_ok [0, 1, 2, 3] (f' := 4) (by kernel_rfl) (by kernel_rfl) (by kernel_rfl) ?_
  refine H_step 4 (by kernel_rfl) (by kernel_rfl) (fun hfz cx' hx1 hx2 => ?_)
  refine CALL 65 [.s (.int .i64 weight)] (.g [.int .i64 (pointF weight).lo, .int .i64 (pointF weight).hi]) [] (by kernel_rfl) (goes_of (by kernel_rfl)) (by kernel_rfl) (by kernel_rfl) (fun hG nV w h => pointF_calls  weight w  ) ?_
  refine WPO_end (by kernel_rfl) ⟨rfl, (hfz.fnds [3, 2, 1, 0] (by kernel_rfl) ⟨by kernel_rfl, by kernel_rfl, by kernel_rfl, by kernel_rfl, trivial⟩ (by kernel_rfl)), ?_⟩
  refine H_IX tt_ok 5 load (([] : List Load) ++ b.loads).length [] (by kernel_rfl) (fun hG => ⟨by omega, by omega⟩) (by kernel_rfl) (by kernel_rfl) ?_
  refine H_step 6 (by kernel_rfl) (by kernel_rfl) (fun hfz cx' hx1 hx2 => ?_)
  refine WPO_all tt_ok (by kernel_rfl) ?_
  refine ⟨rfl, (hfz.fnds [3, 2, 1, 0] (by kernel_rfl) ⟨by kernel_rfl, by kernel_rfl, by kernel_rfl, by kernel_rfl, trivial⟩ (by kernel_rfl)), ?_⟩
  refine H_step 7 (by kernel_rfl) (by kernel_rfl) (fun hfz cx' hx1 hx2 => ?_)
  refine EST tt_ok 5 load 3 0 61 43 (([] : List Load) ++ b.loads) encLoad zLoad (⟨(pointF weight), ((([] : List Load) ++ b.loads).getD load.toNat zLoad).lanes⟩ : Load) (.g [.int .i64 (pointF weight).lo, .int .i64 (pointF weight).hi]) (by kernel_rfl) (by kernel_rfl) (by kernel_rfl) (by kernel_rfl) ⟨by omega, by omega⟩ (fun n => rfl) ?_
  refine WPO_end (by kernel_rfl) ⟨rfl, (hfz.fnds [3, 2, 1, 0] (by kernel_rfl) ⟨by kernel_rfl, by kernel_rfl, by kernel_rfl, by kernel_rfl, trivial⟩ (by kernel_rfl)), ?_⟩
  refine H_done (by kernel_rfl) ?_
  refine WP_seq (WP_region (WPO_all tt_ok (by kernel_rfl) ?_))
  refine WP_ret ?_
  exact ⟨.g [.ref 5, .int .i64 b.rule, .int .i64 b.most], by kernel_rfl, fun nV w' h => ⟨nV 5, by rw [show weighedR b load weight = (⟨(([] : List Load) ++ b.loads).set load.toNat (⟨(pointF weight), ((([] : List Load) ++ b.loads).getD load.toNat zLoad).lanes⟩ : Load), b.rule, b.most⟩ : DBook) from rfl]; rfl, h.bel, by rw [show weighedR b load weight = (⟨(([] : List Load) ++ b.loads).set load.toNat (⟨(pointF weight), ((([] : List Load) ++ b.loads).getD load.toNat zLoad).lanes⟩ : Load), b.rule, b.most⟩ : DBook) from rfl]; exact own_of (z := zLoad) h (by kernel_rfl)⟩⟩
theorem checkR_load {b : DBook} (h : checkR b = 0) {k : Nat} (hk : k < b.loads.length) : 1 ≤ (b.loads.getD k zLoad).w.lo ∧ (b.loads.getD k zLoad).w.lo ≤ (b.loads.getD k zLoad).w.hi ∧ (b.loads.getD k zLoad).w.hi ≤ 60 := by
  unfold checkR at h
  rw [loopR_all (fun k => ((validF (b.loads.getD k zLoad).w 1 60) && (decide ((IntKind.i64.wrap ((b.loads.getD k zLoad).w.hi - (b.loads.getD k zLoad).w.lo)) ≤ 4))) && (insideF (b.loads.getD k zLoad).lanes 1 7)) (fun k v hk => by simp only [checkR_c1]; rw [decide_eq_true (by omega), Bool.and_true]) (fun k hk => rfl)] at h
  simp only at h
  cases hc : (((insideF (b.loads.length : Int) 1 5) && (insideF b.rule 0 30)) && (insideF b.most 1 200)) && (List.range b.loads.length).all (fun k => ((validF (b.loads.getD k zLoad).w 1 60) && (decide ((IntKind.i64.wrap ((b.loads.getD k zLoad).w.hi - (b.loads.getD k zLoad).w.lo)) ≤ 4))) && (insideF (b.loads.getD k zLoad).lanes 1 7)) with
  | false => rw [hc] at h; cases h
  | true =>
    have h2 := List.all_eq_true.1 (Bool.and_eq_true_iff.1 hc).2 k (List.mem_range.2 hk)
    simp only [validF, Bool.and_eq_true, decide_eq_true_eq] at h2
    omega
theorem weighedR_len {b : DBook} {k : Int} {x : Int} : (weighedR b k x).loads.length = b.loads.length := by
  unfold weighedR
  simp
def WeighR_c2 (b : DBook) (k1 : Nat) (v1_1 : Int) (v1_2 : Int) (k2 : Nat) : Int → Bool := fun v2_1 => decide (((b.loads.getD k1 zLoad).w.lo + (k2 : Int)) ≤ (b.loads.getD k1 zLoad).w.hi)
def WeighR_b2 (b : DBook) (k1 : Nat) (v1_1 : Int) (v1_2 : Int) (k2 : Nat) : Int → Bd Int (Int × Int) := fun v2_1 => .go (mn v2_1 ((mostR (weighedR b (k1 : Int) ((b.loads.getD k1 zLoad).w.lo + (k2 : Int)))).length : Int))
def WeighR_c1 (b : DBook) (k1 : Nat) : (Int × Int) → Bool := fun (v1_1, v1_2) => decide ((k1 : Int) < (b.loads.length : Int))
def WeighR_b1 (b : DBook) (k1 : Nat) : (Int × Int) → Bd (Int × Int) (Int × Int) := fun (v1_1, v1_2) => (bif (b.loads.getD k1 zLoad).w.lo == (b.loads.getD k1 zLoad).w.hi then .go (v1_1, v1_2) else (match loopR (WeighR_c2 b k1 v1_1 v1_2) (WeighR_b2 b k1 v1_1 v1_2) ((b.loads.getD k1 zLoad).w.hi - (b.loads.getD k1 zLoad).w.lo + 1 : Int).toNat 0 (b.loads.length : Int) with | .brk u2_0 => .go (bif ((decide (v1_2 < 0)) || (decide (u2_0 > v1_1))) then u2_0 else v1_1, bif ((decide (v1_2 < 0)) || (decide (u2_0 > v1_1))) then (k1 : Int) else v1_2) | .ret r => .ret r))
def WeighR (b : DBook) : Int × Int :=
  (bif (checkR b) != 0 then (0, (checkR b)) else (match loopR (WeighR_c1 b) (WeighR_b1 b) b.loads.length 0 (0, -1) with | .brk (u1_0, u1_1) => (bif decide (u1_1 < 0) then (0, 4) else (u1_1, 0)) | .ret r => r))
theorem WeighR_calls (g0 : Value) (b : DBook) (w : World) (r0 : Reads w g0 3 b.loads encLoad zLoad)  : Calls Tryd.prog 82 #[.agg #[g0, iv b.rule, iv b.most]] w fun e w' => e = .returned (.tuple #[iv (WeighR b).1, iv (WeighR b).2]) ∧ Below w.heap.size w w' := by
  refine calls_of_WP (cx := cx0 w (vn [g0]) 1) (n := vn [g0]) (vs := [.g [.ref 0, .int .i64 b.rule, .int .i64 b.most]]) (hp := [(0, .sl .ro 61 3 b.loads encLoad zLoad)]) (nx := 1) tt_ok Tryd.func82 rfl rfl rfl (by kernel_rfl) (HSat_args (vn_one (by simp [r0.one])) (Nat.le_refl _) ⟨⟨⟨fun _ => rfl, by decide, r0⟩, (Nat.le_of_ble_eq_true rfl)⟩, trivial⟩) (vsOk (by kernel_rfl)) ?_
  have hl0 := Reads.len r0
  refine WP_seq (WP_region (WPO_all tt_ok (by kernel_rfl) ?_))
  refine WP_seq (WP_seq (WP_region (WPO_run tt_ok 1 (by kernel_rfl) ?_)))
  refine CALL 74 [.g [.ref 0, .int .i64 b.rule, .int .i64 b.most]] (.s (.int .i64 (checkR b))) [] (by kernel_rfl) (goes_of (by kernel_rfl)) (by kernel_rfl) (by kernel_rfl) (fun hG nV w h => checkR_calls (nV 0) b w (h.reads (id := 0) (kd := .ro) (e := 61) (by kernel_rfl)) ) ?_
  refine WPO_all tt_ok (by kernel_rfl) ?_
  refine WP_seq (WP_region (WPO_all tt_ok (by kernel_rfl) ?_))
  refine WP_cond ((checkR b) != 0) (by kernel_rfl) (fun hc2 => ?_) (fun hc2 => ?_)
  · have hc2' := hc2; try simp only [Bool.and_eq_true, Bool.or_eq_true, Bool.and_eq_false_iff, Bool.or_eq_false_iff, Bool.not_eq_true', Bool.not_eq_false', decide_eq_true_eq, decide_eq_false_iff_not, beq_iff_eq, beq_eq_false_iff_ne, bne_iff_ne, bne_eq_false_iff_eq, ne_eq] at hc2'
    refine WP_seq (WP_region (WPO_all tt_ok (by kernel_rfl) ?_))
    refine WP_ret ?_
    exact ⟨.t [(false, [.int .i64 0]), (false, [.int .i64 (checkR b)])], by kernel_rfl, fun nV w' h => ⟨by rw [show WeighR b = (0, (checkR b)) from by unfold WeighR; simp only [hc2, cond_true, cond_false]]; rfl, h.bel⟩⟩
  have hc2' := hc2; try simp only [Bool.and_eq_true, Bool.or_eq_true, Bool.and_eq_false_iff, Bool.or_eq_false_iff, Bool.not_eq_true', Bool.not_eq_false', decide_eq_true_eq, decide_eq_false_iff_not, beq_iff_eq, beq_eq_false_iff_ne, bne_iff_ne, bne_eq_false_iff_eq, ne_eq] at hc2'
  refine WP_skip ?_
  have hb5 := checkR_five (bne_eq_false_iff_eq.1 (by assumption))
  have hsl := setsR_len hb5
  have hpl := (pow_wrap hb5).2
  have hck := (bne_eq_false_iff_eq.1 (by assumption) : checkR b = 0)
  refine WP_seq (WP_region (WPO_all tt_ok (by kernel_rfl) ?_))
  refine WP_seq (WP_seq (WP_region (WPO_all tt_ok (by kernel_rfl) ?_)))
  refine WP_loopA (ρ := Int × Int) (WeighR_c1 b) (WeighR_b1 b) b.loads.length (0, -1) (fun k : Nat => (k : Int)) (fun (ci : Int) (zz : Int × Int) => ⟨65, [(7, [], .s (.int .i64 ci)), (6, [], .s (.int .i64 zz.1)), (5, [], .s (.int .i64 zz.2)), (1, [], .s (.p 1 0))], [(1, .box 24 [.ref 0, .int .i64 b.rule, .int .i64 b.most]), (0, .sl .ro 61 3 b.loads encLoad zLoad)], 2, []⟩) (fun zz : Int × Int => ⟨65, [(5, [], .s (.int .i64 zz.2))], [(1, .box 24 [.ref 0, .int .i64 b.rule, .int .i64 b.most]), (0, .sl .ro 61 3 b.loads encLoad zLoad)], 2, []⟩) (fun k zz => True) trivial ⟨0, rfl, Le_sel (ts := [7, 6, 5, 1]) (ids := [1, 0]) (nx := 2) (by kernel_rfl)⟩ ?_ ?_
  · intro k1 zz hn1 hp1 hi1 Q1 hq1 ho1
    obtain ⟨v1_1, v1_2⟩ := zz
    refine WP_seq (WP_seq (WP_region (WPO_all tt_ok (by kernel_rfl) ?_)))
    refine WP_cond (decide ((k1 : Int) < (b.loads.length : Int))) (by kernel_rfl) (fun hc3 => ?_) (fun hc3 => ?_)
    rotate_left
    · refine WP_exit ?_
      show Q1 (.exit 0) _
      exact LA_exit hq1 (v1_1, v1_2) (loopR_end hi1 hc3) ⟨k1, hn1, hp1⟩ (Le_sel (ts := [5]) (ids := [1, 0]) (nx := 2) (by kernel_rfl))
    have hc3' := of_decide_eq_true hc3
    have hk1 : k1 < b.loads.length := by omega
    have hld := checkR_load hck hk1
    refine WP_skip ?_
    refine WP_seq (WP_block ?_)
    refine WP_seq (WP_toX (σ := Unit) (fun _ => ⟨65, [(9, [], .s (.int .i64 (b.loads.length : Int))), (8, [], .s (.p 2 0)), (7, [], .s (.int .i64 (k1 : Int))), (6, [], .s (.int .i64 v1_1)), (5, [], .s (.int .i64 v1_2)), (1, [], .s (.p 1 0))], [(2, .box 43 [.int .i64 (b.loads.getD k1 zLoad).w.lo, .int .i64 (b.loads.getD k1 zLoad).w.hi]), (1, .box 24 [.ref 0, .int .i64 b.rule, .int .i64 b.most]), (0, .sl .ro 61 3 b.loads encLoad zLoad)], 3, []⟩) ?_ ?_)
    · refine WP_drawH [] (by kernel_rfl) (by kernel_rfl) ?_
      refine H_run tt_ok [0, 1, 2] (f' := 9) (by kernel_rfl) (by kernel_rfl) (by kernel_rfl) ?_
      refine H_IX tt_ok 3 (k1 : Int) b.loads.length [] (by kernel_rfl) (fun hG => ⟨by omega, by omega⟩) (by kernel_rfl) (by kernel_rfl) ?_
      refine H_run tt_ok [6, 7, 8] (f' := 5) (by kernel_rfl) (by kernel_rfl) (by kernel_rfl) ?_
      refine H_two 4 9 (by kernel_rfl) (by kernel_rfl) (by kernel_rfl) (fun hfz cx' hx1 hx2 => ?_) (fun hfz cx' hx1 hx2 => ?_)
      · refine WPO_all tt_ok (by kernel_rfl) ?_
        refine ⟨rfl, (hfz.fnds [1, 0] (by kernel_rfl) ⟨by kernel_rfl, by kernel_rfl, trivial⟩ (by kernel_rfl)), ?_⟩
        refine H_run tt_ok [5] (f' := 3) (by kernel_rfl) (by kernel_rfl) (by kernel_rfl) ?_
        refine H_step 9 (by kernel_rfl) (by kernel_rfl) (fun hfz cx' hx1 hx2 => ?_)
        refine WPO_all tt_ok (by kernel_rfl) ?_
        refine ⟨rfl, (hfz.fnds [1, 0] (by kernel_rfl) ⟨by kernel_rfl, by kernel_rfl, trivial⟩ (by kernel_rfl)), ?_⟩
        refine H_step 10 (by kernel_rfl) (by kernel_rfl) (fun hfz cx' hx1 hx2 => ?_)
        refine WPO_all tt_ok (by kernel_rfl) ?_
        refine ⟨rfl, (hfz.fnds [1, 0] (by kernel_rfl) ⟨by kernel_rfl, by kernel_rfl, trivial⟩ (by kernel_rfl)), ?_⟩
        refine H_run tt_ok [11] (f' := 0) (by kernel_rfl) (by kernel_rfl) (by kernel_rfl) ?_
        refine H_done (by kernel_rfl) ?_
        exact ⟨(), Le_sel (ts := [9, 8, 7, 6, 5, 1]) (ids := [2, 1, 0]) (nx := 3) (by kernel_rfl)⟩
      · refine WPO_all tt_ok (by kernel_rfl) ?_
        refine ⟨rfl, (hfz.fnds [1, 0] (by kernel_rfl) ⟨by kernel_rfl, by kernel_rfl, trivial⟩ (by kernel_rfl)), ?_⟩
        refine H_step 4 (by kernel_rfl) (by kernel_rfl) (fun hfz cx' hx1 hx2 => ?_)
        refine WPO_all tt_ok (by kernel_rfl) ?_
        refine ⟨rfl, (hfz.fnds [1, 0] (by kernel_rfl) ⟨by kernel_rfl, by kernel_rfl, trivial⟩ (by kernel_rfl)), ?_⟩
        refine H_run tt_ok [5] (f' := 2) (by kernel_rfl) (by kernel_rfl) (by kernel_rfl) ?_
        refine H_step 10 (by kernel_rfl) (by kernel_rfl) (fun hfz cx' hx1 hx2 => ?_)
        refine WPO_all tt_ok (by kernel_rfl) ?_
        refine ⟨rfl, (hfz.fnds [1, 0] (by kernel_rfl) ⟨by kernel_rfl, by kernel_rfl, trivial⟩ (by kernel_rfl)), ?_⟩
        refine H_run tt_ok [11] (f' := 0) (by kernel_rfl) (by kernel_rfl) (by kernel_rfl) ?_
        refine H_done (by kernel_rfl) ?_
        exact ⟨(), Le_sel (ts := [9, 8, 7, 6, 5, 1]) (ids := [2, 1, 0]) (nx := 3) (by kernel_rfl)⟩
    intro _
    refine WP_seq (WP_seq (WP_region (WPO_all tt_ok (by kernel_rfl) ?_)))
    refine WP_cond ((b.loads.getD k1 zLoad).w.lo == (b.loads.getD k1 zLoad).w.hi) (by kernel_rfl) (fun hc5 => ?_) (fun hc5 => ?_)
    · have hc5' := hc5; try simp only [Bool.and_eq_true, Bool.or_eq_true, Bool.and_eq_false_iff, Bool.or_eq_false_iff, Bool.not_eq_true', Bool.not_eq_false', decide_eq_true_eq, decide_eq_false_iff_not, beq_iff_eq, beq_eq_false_iff_ne, bne_iff_ne, bne_eq_false_iff_eq, ne_eq] at hc5'
      refine WP_exit ?_
      refine WP_region (WPO_all tt_ok (by kernel_rfl) ?_)
      show Q1 .normal _
      exact LA_go hq1 (ci := IntKind.i64.wrap ((k1 : Int) + 1)) (v1_1, v1_2) hk1 (by show _ = ((k1 + 1 : Nat) : Int); rw [wrapI (by omega) (by omega)]; omega) (loopR_go hi1 hk1 hc3 (by unfold WeighR_b1; simp only [hc5, cond_true, cond_false])) trivial (Le_sel (ts := [7, 6, 5, 1]) (ids := [1, 0]) (nx := 2) (by kernel_rfl))
    have hc5' := hc5; try simp only [Bool.and_eq_true, Bool.or_eq_true, Bool.and_eq_false_iff, Bool.or_eq_false_iff, Bool.not_eq_true', Bool.not_eq_false', decide_eq_true_eq, decide_eq_false_iff_not, beq_iff_eq, beq_eq_false_iff_ne, bne_iff_ne, bne_eq_false_iff_eq, ne_eq] at hc5'
    refine WP_skip ?_
    refine WP_seq (WP_seq (WP_region (WPO_all tt_ok (by kernel_rfl) ?_)))
    refine WP_loopA (ρ := Int × Int) (WeighR_c2 b k1 v1_1 v1_2) (WeighR_b2 b k1 v1_1 v1_2) ((b.loads.getD k1 zLoad).w.hi - (b.loads.getD k1 zLoad).w.lo + 1 : Int).toNat (b.loads.length : Int) (fun k : Nat => ((b.loads.getD k1 zLoad).w.lo + (k : Int))) (fun (ci : Int) (zz : Int) => ⟨65, [(10, [], .s (.int .i64 ci)), (9, [], .s (.int .i64 zz)), (8, [], .s (.p 2 0)), (7, [], .s (.int .i64 (k1 : Int))), (6, [], .s (.int .i64 v1_1)), (5, [], .s (.int .i64 v1_2)), (1, [], .s (.p 1 0))], [(2, .box 43 [.int .i64 (b.loads.getD k1 zLoad).w.lo, .int .i64 (b.loads.getD k1 zLoad).w.hi]), (1, .box 24 [.ref 0, .int .i64 b.rule, .int .i64 b.most]), (0, .sl .ro 61 3 b.loads encLoad zLoad)], 3, []⟩) (fun zz : Int => ⟨65, [(9, [], .s (.int .i64 zz)), (7, [], .s (.int .i64 (k1 : Int))), (6, [], .s (.int .i64 v1_1)), (5, [], .s (.int .i64 v1_2)), (1, [], .s (.p 1 0))], [(2, .box 43 [.int .i64 (b.loads.getD k1 zLoad).w.lo, .int .i64 (b.loads.getD k1 zLoad).w.hi]), (1, .box 24 [.ref 0, .int .i64 b.rule, .int .i64 b.most]), (0, .sl .ro 61 3 b.loads encLoad zLoad)], 3, []⟩) (fun k zz => True) trivial ⟨(b.loads.getD k1 zLoad).w.lo, by simp, Le_sel (ts := [10, 9, 8, 7, 6, 5, 1]) (ids := [2, 1, 0]) (nx := 3) (by kernel_rfl)⟩ ?_ ?_
    · intro k2 v2_1 hn2 hp2 hi2 Q2 hq2 ho2
      refine WP_seq (WP_seq (WP_region (WPO_all tt_ok (by kernel_rfl) ?_)))
      refine WP_cond (decide (((b.loads.getD k1 zLoad).w.lo + (k2 : Int)) ≤ (b.loads.getD k1 zLoad).w.hi)) (by kernel_rfl) (fun hc6 => ?_) (fun hc6 => ?_)
      rotate_left
      · refine WP_exit ?_
        show Q2 (.exit 2) _
        exact LA_exit hq2 v2_1 (loopR_end hi2 hc6) ⟨k2, hn2, hp2⟩ (Le_sel (ts := [9, 7, 6, 5, 1]) (ids := [2, 1, 0]) (nx := 3) (by kernel_rfl))
      have hc6' := of_decide_eq_true hc6
      have hk2 : k2 < ((b.loads.getD k1 zLoad).w.hi - (b.loads.getD k1 zLoad).w.lo + 1 : Int).toNat := by omega
      refine WP_skip ?_
      refine WP_seq (WP_block ?_)
      refine WP_region (WPO_run tt_ok 4 (by kernel_rfl) ?_)
      refine CALLO 115 [.g [.ref 0, .int .i64 b.rule, .int .i64 b.most], .s (.int .i64 (k1 : Int)), .s (.int .i64 ((b.loads.getD k1 zLoad).w.lo + (k2 : Int)))] (.g [.ref 3, .int .i64 (weighedR b (k1 : Int) ((b.loads.getD k1 zLoad).w.lo + (k2 : Int))).rule, .int .i64 (weighedR b (k1 : Int) ((b.loads.getD k1 zLoad).w.lo + (k2 : Int))).most]) 61 3 (weighedR b (k1 : Int) ((b.loads.getD k1 zLoad).w.lo + (k2 : Int))).loads encLoad zLoad 3 (by kernel_rfl) (by kernel_rfl) (goes_of (by kernel_rfl)) (by kernel_rfl) (by kernel_rfl) (fun _ => rfl) ((fun nV w h => weighedR_calls (nV 0) b (k1 : Int) ((b.loads.getD k1 zLoad).w.lo + (k2 : Int)) w (h.reads (id := 0) (kd := .ro) (e := 61) (by kernel_rfl)) (by first | assumption | omega | (rw [weighedR_len]; omega)) (by first | assumption | omega | (rw [weighedR_len]; omega)))) ?_
      refine CALLO 112 [.g [.ref 3, .int .i64 (weighedR b (k1 : Int) ((b.loads.getD k1 zLoad).w.lo + (k2 : Int))).rule, .int .i64 (weighedR b (k1 : Int) ((b.loads.getD k1 zLoad).w.lo + (k2 : Int))).most]] (.s (.ref 4)) 3 1 (mostR (weighedR b (k1 : Int) ((b.loads.getD k1 zLoad).w.lo + (k2 : Int)))) encI 0 4 (by kernel_rfl) (by kernel_rfl) (goes_of (by kernel_rfl)) (by kernel_rfl) (by kernel_rfl) (fun _ => rfl) ((fun nV w h => mostR_calls (nV 3) (weighedR b (k1 : Int) ((b.loads.getD k1 zLoad).w.lo + (k2 : Int))) w (h.reads (id := 3) (kd := .own) (e := 61) (by kernel_rfl)) (by first | assumption | omega | (rw [weighedR_len]; omega)))) ?_
      refine WPO_all tt_ok (by kernel_rfl) ?_
      refine WP_region (WPO_all tt_ok (by kernel_rfl) ?_)
      show Q2 .normal _
      exact LA_go hq2 (ci := IntKind.i64.wrap (((b.loads.getD k1 zLoad).w.lo + (k2 : Int)) + 1)) (mn v2_1 ((mostR (weighedR b (k1 : Int) ((b.loads.getD k1 zLoad).w.lo + (k2 : Int)))).length : Int)) hk2 (by show _ = ((b.loads.getD k1 zLoad).w.lo + ((k2 + 1 : Nat) : Int)); rw [wrapI (by omega) (by omega)]; omega) (loopR_go hi2 hk2 hc6 (rfl)) trivial (Le_sel (ts := [10, 9, 8, 7, 6, 5, 1]) (ids := [2, 1, 0]) (nx := 3) (by kernel_rfl))
    intro u2_0 hR2 hP2 s' hl
    refine WP_le hl ?_
    clear hl s'
    refine WP_seq (WP_region (WPO_all tt_ok (by kernel_rfl) ?_))
    refine WP_join ((decide (v1_2 < 0)) || (decide (u2_0 > v1_1))) (fun q => ⟨65, [(6, [], .s (.int .i64 (bif q then u2_0 else v1_1))), (5, [], .s (.int .i64 (bif q then (k1 : Int) else v1_2))), (7, [], .s (.int .i64 (k1 : Int))), (1, [], .s (.p 1 0))], [(2, .box 43 [.int .i64 (b.loads.getD k1 zLoad).w.lo, .int .i64 (b.loads.getD k1 zLoad).w.hi]), (1, .box 24 [.ref 0, .int .i64 b.rule, .int .i64 b.most]), (0, .sl .ro 61 3 b.loads encLoad zLoad)], 3, []⟩) (by kernel_rfl) (fun hc8 => ?_) (fun hc8 => ?_) ?_
    · have hc8' := hc8; try simp only [Bool.and_eq_true, Bool.or_eq_true, Bool.and_eq_false_iff, Bool.or_eq_false_iff, Bool.not_eq_true', Bool.not_eq_false', decide_eq_true_eq, decide_eq_false_iff_not, beq_iff_eq, beq_eq_false_iff_ne, bne_iff_ne, bne_eq_false_iff_eq, ne_eq] at hc8'
      refine WP_region (WPO_all tt_ok (by kernel_rfl) ?_)
      exact Le_sel (ts := [6, 5, 7, 1]) (ids := [2, 1, 0]) (nx := 3) (by kernel_rfl)
    · have hc8' := hc8; try simp only [Bool.and_eq_true, Bool.or_eq_true, Bool.and_eq_false_iff, Bool.or_eq_false_iff, Bool.not_eq_true', Bool.not_eq_false', decide_eq_true_eq, decide_eq_false_iff_not, beq_iff_eq, beq_eq_false_iff_ne, bne_iff_ne, bne_eq_false_iff_eq, ne_eq] at hc8'
      refine WP_skip ?_
      exact Le_sel (ts := [6, 5, 7, 1]) (ids := [2, 1, 0]) (nx := 3) (by kernel_rfl)
    refine WP_region (WPO_all tt_ok (by kernel_rfl) ?_)
    show Q1 .normal _
    exact LA_go hq1 (ci := IntKind.i64.wrap ((k1 : Int) + 1)) (bif ((decide (v1_2 < 0)) || (decide (u2_0 > v1_1))) then u2_0 else v1_1, bif ((decide (v1_2 < 0)) || (decide (u2_0 > v1_1))) then (k1 : Int) else v1_2) hk1 (by show _ = ((k1 + 1 : Nat) : Int); rw [wrapI (by omega) (by omega)]; omega) (loopR_go hi1 hk1 hc3 (by unfold WeighR_b1; simp only [hc5, hR2, cond_true, cond_false])) trivial (Le_sel (ts := [7, 6, 5, 1]) (ids := [1, 0]) (nx := 2) (by kernel_rfl))
  intro zz hR1 hP1 s' hl
  obtain ⟨u1_0, u1_1⟩ := zz
  refine WP_le hl ?_
  clear hl s'
  refine WP_seq (WP_seq (WP_region (WPO_all tt_ok (by kernel_rfl) ?_)))
  refine WP_cond (decide (u1_1 < 0)) (by kernel_rfl) (fun hc10 => ?_) (fun hc10 => ?_)
  · have hc10' := of_decide_eq_true hc10
    refine WP_seq (WP_region (WPO_all tt_ok (by kernel_rfl) ?_))
    refine WP_ret ?_
    exact ⟨.t [(false, [.int .i64 0]), (false, [.int .i64 4])], by kernel_rfl, fun nV w' h => ⟨by rw [show WeighR b = (0, 4) from by unfold WeighR; simp only [hc2, hR1, hc10, cond_true, cond_false]]; rfl, h.bel⟩⟩
  have hc10' := of_decide_eq_false hc10
  refine WP_skip ?_
  refine WP_seq (WP_region (WPO_all tt_ok (by kernel_rfl) ?_))
  refine WP_ret ?_
  exact ⟨.t [(false, [.int .i64 u1_1]), (false, [.int .i64 0])], by kernel_rfl, fun nV w' h => ⟨by rw [show WeighR b = (u1_1, 0) from by unfold WeighR; simp only [hc2, hR1, hc10, cond_true, cond_false]]; rfl, h.bel⟩⟩
def deckFewestsL (own : DBook) (b : DBook) : Bool :=
  (bif (!(alikeF (fewestA own).1 (FewestR b).1)) || ((fewestA own).2 != (FewestR b).2) then false else (bif (!(alikeF (neverA own).1 (NeverR b).1)) || ((neverA own).2 != (NeverR b).2) then false else ((weighA own).1 == (WeighR b).1) && ((weighA own).2 == (WeighR b).2)))
theorem deckFewestsL_calls (g0 g1 : Value) (own : DBook) (b : DBook) (w : World) (r0 : Reads w g0 3 own.loads encLoad zLoad) (r1 : Reads w g1 3 b.loads encLoad zLoad) (hnb : NobodyAt w) (hla : LanesAt w) : Calls Tryd.prog 25 #[.agg #[g0, iv own.rule, iv own.most], .agg #[g1, iv b.rule, iv b.most]] w fun e w' => e = .returned (.bool (deckFewestsL own b)) ∧ Below w.heap.size w w' := by
  refine calls_of_WP (cx := cx0 w (vn [g0, g1]) 2) (n := vn [g0, g1]) (vs := [.g [.ref 0, .int .i64 own.rule, .int .i64 own.most], .g [.ref 1, .int .i64 b.rule, .int .i64 b.most]]) (hp := [(0, .sl .ro 61 3 own.loads encLoad zLoad), (1, .sl .ro 61 3 b.loads encLoad zLoad), (2, .pf NobodyAt (· = 1)), (3, .pf LanesAt (· = 0))]) (nx := 4) tt_ok Tryd.func25 rfl rfl rfl (by kernel_rfl) (HSat_args (vn_one (by simp [r0.one, r1.one])) (by decide) ⟨⟨⟨fun _ => rfl, by decide, r0⟩, (Nat.le_of_ble_eq_true rfl)⟩, ⟨⟨fun _ => rfl, by decide, r1⟩, (Nat.le_of_ble_eq_true rfl)⟩, ⟨⟨hnb, fun w1 w2 h1 hw => (hw 1 rfl).trans h1, fun g hg => by cases hg; exact (Array.getElem?_eq_some_iff.1 hnb).1⟩, (Nat.le_of_ble_eq_true rfl)⟩, ⟨⟨hla, fun w1 w2 h1 hw => (hw 0 rfl).trans h1, fun g hg => by cases hg; exact (Array.getElem?_eq_some_iff.1 hla).1⟩, (Nat.le_of_ble_eq_true rfl)⟩, trivial⟩) (vsOk (by kernel_rfl)) ?_
  have hl0 := Reads.len r0
  have hl1 := Reads.len r1
  refine WP_seq (WP_region (WPO_all tt_ok (by kernel_rfl) ?_))
  refine WP_seq (WP_region (WPO_run tt_ok 1 (by kernel_rfl) ?_))
  refine CALLR 46 [.g [.ref 0, .int .i64 own.rule, .int .i64 own.most]] (.t [(false, [.ref 6]), (false, [.int .i64 (fewestA own).2])]) 3 1 (fewestA own).1 encI 0 6 (by kernel_rfl) (by kernel_rfl) (goes_of (by kernel_rfl)) (by kernel_rfl) (by kernel_rfl) (by decide) (fun _ => rfl) (fun nV w h => (fewestA_calls (nV 0) own w (h.reads (id := 0) (kd := .ro) (e := 61) (by kernel_rfl)) (h.ents (2, .pf NobodyAt (· = 1)) (fnd_mem (by kernel_rfl))).1 (h.ents (3, .pf LanesAt (· = 0)) (fnd_mem (by kernel_rfl))).1 ).mono fun e w' h1 => weak_fresh h1) ?_
  refine WPO_all tt_ok (by kernel_rfl) ?_
  refine WP_seq (WP_region (WPO_run tt_ok 1 (by kernel_rfl) ?_))
  refine CALLR 80 [.g [.ref 1, .int .i64 b.rule, .int .i64 b.most]] (.t [(false, [.ref 7]), (false, [.int .i64 (FewestR b).2])]) 3 1 (FewestR b).1 encI 0 7 (by kernel_rfl) (by kernel_rfl) (goes_of (by kernel_rfl)) (by kernel_rfl) (by kernel_rfl) (by decide) (fun _ => rfl) (fun nV w h => (FewestR_calls (nV 1) b w (h.reads (id := 1) (kd := .ro) (e := 61) (by kernel_rfl)) ).mono fun e w' h1 => weak_fresh h1) ?_
  refine WPO_all tt_ok (by kernel_rfl) ?_
  refine WP_seq (WP_seq (WP_region (WPO_run tt_ok 2 (by kernel_rfl) ?_)))
  refine CALL 24 [.s (.ref 6), .s (.ref 7)] (.s (.bool (alikeF (fewestA own).1 (FewestR b).1))) [] (by kernel_rfl) (goes_of (by kernel_rfl)) (by kernel_rfl) (by kernel_rfl) (fun hG nV w h => alikeF_calls (nV 6) (nV 7) (fewestA own).1 (FewestR b).1 w (h.reads (id := 6) (kd := .ro) (e := 3) (by kernel_rfl)) (h.reads (id := 7) (kd := .ro) (e := 3) (by kernel_rfl)) ) ?_
  refine WPO_all tt_ok (by kernel_rfl) ?_
  refine WP_cond ((!(alikeF (fewestA own).1 (FewestR b).1)) || ((fewestA own).2 != (FewestR b).2)) (by kernel_rfl) (fun hc2 => ?_) (fun hc2 => ?_)
  · have hc2' := hc2; try simp only [Bool.and_eq_true, Bool.or_eq_true, Bool.and_eq_false_iff, Bool.or_eq_false_iff, Bool.not_eq_true', Bool.not_eq_false', decide_eq_true_eq, decide_eq_false_iff_not, beq_iff_eq, beq_eq_false_iff_ne, bne_iff_ne, bne_eq_false_iff_eq, ne_eq] at hc2'
    refine WP_seq (WP_region (WPO_all tt_ok (by kernel_rfl) ?_))
    refine WP_ret ?_
    exact ⟨.s (.bool false), by kernel_rfl, fun nV w' h => ⟨by rw [show deckFewestsL own b = false from by unfold deckFewestsL; simp only [hc2, cond_true, cond_false]]; rfl, h.bel⟩⟩
  have hc2' := hc2; try simp only [Bool.and_eq_true, Bool.or_eq_true, Bool.and_eq_false_iff, Bool.or_eq_false_iff, Bool.not_eq_true', Bool.not_eq_false', decide_eq_true_eq, decide_eq_false_iff_not, beq_iff_eq, beq_eq_false_iff_ne, bne_iff_ne, bne_eq_false_iff_eq, ne_eq] at hc2'
  refine WP_skip ?_
  refine WP_seq (WP_region (WPO_run tt_ok 1 (by kernel_rfl) ?_))
  refine CALLR 47 [.g [.ref 0, .int .i64 own.rule, .int .i64 own.most]] (.t [(false, [.ref 8]), (false, [.int .i64 (neverA own).2])]) 3 1 (neverA own).1 encI 0 8 (by kernel_rfl) (by kernel_rfl) (goes_of (by kernel_rfl)) (by kernel_rfl) (by kernel_rfl) (by decide) (fun _ => rfl) (fun nV w h => (neverA_calls (nV 0) own w (h.reads (id := 0) (kd := .ro) (e := 61) (by kernel_rfl)) (h.ents (2, .pf NobodyAt (· = 1)) (fnd_mem (by kernel_rfl))).1 (h.ents (3, .pf LanesAt (· = 0)) (fnd_mem (by kernel_rfl))).1 ).mono fun e w' h1 => weak_fresh h1) ?_
  refine WPO_all tt_ok (by kernel_rfl) ?_
  refine WP_seq (WP_region (WPO_run tt_ok 1 (by kernel_rfl) ?_))
  refine CALLO 81 [.g [.ref 1, .int .i64 b.rule, .int .i64 b.most]] (.t [(false, [.ref 9]), (false, [.int .i64 (NeverR b).2])]) 3 1 (NeverR b).1 encI 0 9 (by kernel_rfl) (by kernel_rfl) (goes_of (by kernel_rfl)) (by kernel_rfl) (by kernel_rfl) (fun _ => rfl) ((fun nV w h => NeverR_calls (nV 1) b w (h.reads (id := 1) (kd := .ro) (e := 61) (by kernel_rfl)) )) ?_
  refine WPO_all tt_ok (by kernel_rfl) ?_
  refine WP_seq (WP_seq (WP_region (WPO_run tt_ok 2 (by kernel_rfl) ?_)))
  refine CALL 24 [.s (.ref 8), .s (.ref 9)] (.s (.bool (alikeF (neverA own).1 (NeverR b).1))) [] (by kernel_rfl) (goes_of (by kernel_rfl)) (by kernel_rfl) (by kernel_rfl) (fun hG nV w h => alikeF_calls (nV 8) (nV 9) (neverA own).1 (NeverR b).1 w (h.reads (id := 8) (kd := .ro) (e := 3) (by kernel_rfl)) (h.reads (id := 9) (kd := .own) (e := 3) (by kernel_rfl)) ) ?_
  refine WPO_all tt_ok (by kernel_rfl) ?_
  refine WP_cond ((!(alikeF (neverA own).1 (NeverR b).1)) || ((neverA own).2 != (NeverR b).2)) (by kernel_rfl) (fun hc4 => ?_) (fun hc4 => ?_)
  · have hc4' := hc4; try simp only [Bool.and_eq_true, Bool.or_eq_true, Bool.and_eq_false_iff, Bool.or_eq_false_iff, Bool.not_eq_true', Bool.not_eq_false', decide_eq_true_eq, decide_eq_false_iff_not, beq_iff_eq, beq_eq_false_iff_ne, bne_iff_ne, bne_eq_false_iff_eq, ne_eq] at hc4'
    refine WP_seq (WP_region (WPO_all tt_ok (by kernel_rfl) ?_))
    refine WP_ret ?_
    exact ⟨.s (.bool false), by kernel_rfl, fun nV w' h => ⟨by rw [show deckFewestsL own b = false from by unfold deckFewestsL; simp only [hc2, hc4, cond_true, cond_false]]; rfl, h.bel⟩⟩
  have hc4' := hc4; try simp only [Bool.and_eq_true, Bool.or_eq_true, Bool.and_eq_false_iff, Bool.or_eq_false_iff, Bool.not_eq_true', Bool.not_eq_false', decide_eq_true_eq, decide_eq_false_iff_not, beq_iff_eq, beq_eq_false_iff_ne, bne_iff_ne, bne_eq_false_iff_eq, ne_eq] at hc4'
  refine WP_skip ?_
  refine WP_seq (WP_region (WPO_run tt_ok 1 (by kernel_rfl) ?_))
  refine CALL 48 [.g [.ref 0, .int .i64 own.rule, .int .i64 own.most]] (.t [(false, [.int .i64 (weighA own).1]), (false, [.int .i64 (weighA own).2])]) [] (by kernel_rfl) (goes_of (by kernel_rfl)) (by kernel_rfl) (by kernel_rfl) (fun hG nV w h => weighA_calls (nV 0) own w (h.reads (id := 0) (kd := .ro) (e := 61) (by kernel_rfl)) (h.ents (2, .pf NobodyAt (· = 1)) (fnd_mem (by kernel_rfl))).1 (h.ents (3, .pf LanesAt (· = 0)) (fnd_mem (by kernel_rfl))).1 ) ?_
  refine WPO_all tt_ok (by kernel_rfl) ?_
  refine WP_seq (WP_region (WPO_run tt_ok 1 (by kernel_rfl) ?_))
  refine CALL 82 [.g [.ref 1, .int .i64 b.rule, .int .i64 b.most]] (.t [(false, [.int .i64 (WeighR b).1]), (false, [.int .i64 (WeighR b).2])]) [] (by kernel_rfl) (goes_of (by kernel_rfl)) (by kernel_rfl) (by kernel_rfl) (fun hG nV w h => WeighR_calls (nV 1) b w (h.reads (id := 1) (kd := .ro) (e := 61) (by kernel_rfl)) ) ?_
  refine WPO_all tt_ok (by kernel_rfl) ?_
  refine WP_seq (WP_region (WPO_all tt_ok (by kernel_rfl) ?_))
  refine WP_ret ?_
  exact ⟨.s (.bool (((weighA own).1 == (WeighR b).1) && ((weighA own).2 == (WeighR b).2))), by kernel_rfl, fun nV w' h => ⟨by rw [show deckFewestsL own b = (((weighA own).1 == (WeighR b).1) && ((weighA own).2 == (WeighR b).2)) from by unfold deckFewestsL; simp only [hc2, hc4, cond_true, cond_false]]; rfl, h.bel⟩⟩
def DeckFewestsL (b : DBook) : Bool :=
  ((deckFewestsL (ownDeckF b) b) && (keptDeckF (ownDeckF b) b)) && stowedL
theorem DeckFewestsL_calls (g0 : Value) (b : DBook) (w : World) (r0 : Reads w g0 3 b.loads encLoad zLoad) (hnb : NobodyAt w) (hla : LanesAt w) (hL0 : b.loads.length * 24 ≤ 140737488355328) : Calls Tryd.prog 5 #[.agg #[g0, iv b.rule, iv b.most]] w fun e w' => e = .returned (.bool (DeckFewestsL b)) ∧ Below w.heap.size w w' := by
  refine calls_of_WP (cx := cx0 w (vn [g0]) 1) (n := vn [g0]) (vs := [.g [.ref 0, .int .i64 b.rule, .int .i64 b.most]]) (hp := [(0, .sl .ro 61 3 b.loads encLoad zLoad), (1, .pf NobodyAt (· = 1)), (2, .pf LanesAt (· = 0))]) (nx := 3) tt_ok Tryd.func5 rfl rfl rfl (by kernel_rfl) (HSat_args (vn_one (by simp [r0.one])) (by decide) ⟨⟨⟨fun _ => rfl, by decide, r0⟩, (Nat.le_of_ble_eq_true rfl)⟩, ⟨⟨hnb, fun w1 w2 h1 hw => (hw 1 rfl).trans h1, fun g hg => by cases hg; exact (Array.getElem?_eq_some_iff.1 hnb).1⟩, (Nat.le_of_ble_eq_true rfl)⟩, ⟨⟨hla, fun w1 w2 h1 hw => (hw 0 rfl).trans h1, fun g hg => by cases hg; exact (Array.getElem?_eq_some_iff.1 hla).1⟩, (Nat.le_of_ble_eq_true rfl)⟩, trivial⟩) (vsOk (by kernel_rfl)) ?_
  have hl0 := Reads.len r0
  refine WP_seq (WP_region (WPO_all tt_ok (by kernel_rfl) ?_))
  refine WP_seq (WP_region (WPO_run tt_ok 1 (by kernel_rfl) ?_))
  refine CALLRS 16 [.g [.ref 0, .int .i64 b.rule, .int .i64 b.most]] (.g [.ref 4, .int .i64 (ownDeckF b).rule, .int .i64 (ownDeckF b).most]) [⟨61, 3, _, (ownDeckF b).loads, encLoad, zLoad⟩] 4 (by kernel_rfl) (by kernel_rfl) (goes_of (by kernel_rfl)) (by kernel_rfl) (by kernel_rfl) ⟨⟨(Nat.le_of_ble_eq_true rfl), fun _ => rfl⟩, trivial⟩ (fun nV w h => (ownDeckF_calls (nV 0) b w (h.reads (id := 0) (kd := .ro) (e := 61) (by kernel_rfl)) (by first | assumption | omega)).mono fun e w' ⟨v0, h1, h2, h3, _⟩ => ⟨[v0], h1, h2, h3⟩) ?_
  refine WPO_all tt_ok (by kernel_rfl) ?_
  refine WP_seq (WP_region (WPO_run tt_ok 2 (by kernel_rfl) ?_))
  refine CALL 25 [.g [.ref 4, .int .i64 (ownDeckF b).rule, .int .i64 (ownDeckF b).most], .g [.ref 0, .int .i64 b.rule, .int .i64 b.most]] (.s (.bool (deckFewestsL (ownDeckF b) b))) [] (by kernel_rfl) (goes_of (by kernel_rfl)) (by kernel_rfl) (by kernel_rfl) (fun hG nV w h => deckFewestsL_calls (nV 4) (nV 0) (ownDeckF b) b w (h.reads (id := 4) (kd := .ro) (e := 61) (by kernel_rfl)) (h.reads (id := 0) (kd := .ro) (e := 61) (by kernel_rfl)) (h.ents (1, .pf NobodyAt (· = 1)) (fnd_mem (by kernel_rfl))).1 (h.ents (2, .pf LanesAt (· = 0)) (fnd_mem (by kernel_rfl))).1 ) ?_
  refine WPO_run tt_ok 3 (by kernel_rfl) ?_
  refine CALL 19 [.g [.ref 4, .int .i64 (ownDeckF b).rule, .int .i64 (ownDeckF b).most], .g [.ref 0, .int .i64 b.rule, .int .i64 b.most]] (.s (.bool (keptDeckF (ownDeckF b) b))) [((deckFewestsL (ownDeckF b) b), true)] (by kernel_rfl) (goes_of (by kernel_rfl)) (by kernel_rfl) (by kernel_rfl) (fun hG nV w h => keptDeckF_calls (nV 4) (nV 0) (ownDeckF b) b w (h.reads (id := 4) (kd := .ro) (e := 61) (by kernel_rfl)) (h.reads (id := 0) (kd := .ro) (e := 61) (by kernel_rfl)) ) ?_
  refine WPO_run tt_ok 2 (by kernel_rfl) ?_
  refine CALL 21 [] (.s (.bool stowedL)) [((deckFewestsL (ownDeckF b) b) && (keptDeckF (ownDeckF b) b), true)] (by kernel_rfl) (goes_of (by kernel_rfl)) (by kernel_rfl) (by kernel_rfl) (fun hG nV w h => stowedL_calls   w (h.ents (1, .pf NobodyAt (· = 1)) (fnd_mem (by kernel_rfl))).1 (h.ents (2, .pf LanesAt (· = 0)) (fnd_mem (by kernel_rfl))).1 ) ?_
  refine WPO_all tt_ok (by kernel_rfl) ?_
  refine WP_ret ?_
  exact ⟨.s (.bool (((deckFewestsL (ownDeckF b) b) && (keptDeckF (ownDeckF b) b)) && stowedL)), by kernel_rfl, fun nV w' h => ⟨by rw [show DeckFewestsL b = (((deckFewestsL (ownDeckF b) b) && (keptDeckF (ownDeckF b) b)) && stowedL) from rfl]; rfl, h.bel⟩⟩
end Go.Proofs.YthfnedbpmdkdjaaDoor.D
namespace Go.Proofs.YthfnedbpmdkdjaaDoor.D
open Go Go.RowKit Go.Proofs.YthfnedbpmdkdjaaDoor.Eng Go.Proofs.YthfnedbpmdkdjaaDoor.Cm
set_option linter.unusedVariables false
set_option linter.unusedSimpArgs false
set_option linter.unusedSectionVars false
theorem mask_snoc : ∀ (cs : List Int) (k : Nat) (c : Int) (j : Nat) (s : Int), maskF k (cs ++ [c]) j s = if c = (j : Int) then orI (maskF k cs j s) ((k + cs.length : Nat) : Int) else maskF k cs j s
  | [], k, c, j, s => by
    show maskF (k + 1) [] j _ = _
    simp only [maskF, List.length_nil, Nat.add_zero]
  | x :: xs, k, c, j, s => by
    show maskF (k + 1) (xs ++ [c]) j _ = _
    rw [mask_snoc xs (k + 1) c j]
    simp only [maskF, List.length_cons]
    rw [show k + 1 + xs.length = k + (xs.length + 1) by omega]
def ofs (m : Nat) (so : List Int) : List Int := (List.range m).map fun j => maskF 0 so j 0
theorem ofs_get {m : Nat} (so : List Int) {j : Nat} (h : j < m) : (ofs m so).getD j 0 = maskF 0 so j 0 := by
  unfold ofs
  rw [List.getD_eq_getElem?_getD, List.getElem?_map, List.getElem?_range h]; rfl
theorem ofs_snoc {m : Nat} (so : List Int) {c : Nat} (h : c < m) : updC (ofs m so) (c : Int) so.length = ofs m (so ++ [(c : Int)]) := by
  unfold updC
  rw [Int.toNat_natCast, ofs_get so h]
  refine List.ext_getElem? fun i => ?_
  have hl : (ofs m so).length = m := by simp [ofs]
  rw [List.getElem?_set, hl]
  unfold ofs
  rw [List.getElem?_map, List.getElem?_map]
  by_cases hi : i < m
  · rw [List.getElem?_range hi, Option.map_some, Option.map_some, mask_snoc, Nat.zero_add]
    by_cases e : c = i
    · subst e; rw [if_pos rfl, if_pos h, if_pos rfl]
    · rw [if_neg e, if_neg (by omega)]
  · rw [if_neg (by omega), List.getElem?_eq_none (l := List.range m) (by simpa using hi)]; rfl
theorem ofs_nil (m : Nat) : ofs m [] = List.replicate m 0 := List.eq_replicate_iff.2 ⟨by simp [ofs], fun x hx => by
  obtain ⟨j, _, rfl⟩ := List.mem_map.1 hx
  rfl⟩
def EqT {α : Type} (x y : α × Bool) : Prop := x.2 = y.2 ∧ (x.2 = true → x.1 = y.1)
theorem mask_fold (so : List Int) (j : Nat) : ∀ m, m ≤ so.length → (List.range m).foldl (fun (v : Int) (i : Nat) => bif ((so.getD i 0) == (j : Int)) then orI v (i : Int) else v) 0 = maskF 0 (so.take m) j 0 := by
  intro m
  induction m with
  | zero => intro _; rfl
  | succ m ih =>
    intro hm
    rw [List.range_succ, List.foldl_append, ih (by omega), List.take_add_one, List.getElem?_eq_getElem (by omega), Option.toList_some, mask_snoc, Nat.zero_add, List.length_take, Nat.min_eq_left (by omega)]
    simp only [List.foldl_cons, List.foldl_nil]
    rw [List.getD_eq_getElem?_getD, List.getElem?_eq_getElem (by omega), Option.getD_some]
    by_cases e : so[m] = (j : Int)
    · rw [if_pos e, show (so[m] == (j : Int)) = true from beq_iff_eq.2 e]; rfl
    · rw [if_neg e, show (so[m] == (j : Int)) = false from beq_eq_false_iff_ne.2 e]; rfl
def gK (F : List Int → List Int × Bool) (so : List Int) (k : Nat) : Option (List Int × Bool) := bif (F (so ++ [(k : Int)])).2 then some ((F (so ++ [(k : Int)])).1, true) else none
theorem crossR_leaf {b : DBook} (hv : ValidD b) {m : Nat} (hm : m ≤ 5) (F : List Int → List Int × Bool) {so : List Int} (h : so.length = b.loads.length) : EqT (crossR (setsR b) (m : Int) (b.loads.length : Int) F so) (so, !(containsD (setsB b) (ofs m so))) := by
  have hn := hv.n
  have hgo : ∀ j, j < m → loopR (crossR_c2 (setsR b) (m : Int) (b.loads.length : Int) F so j) (crossR_b2 (setsR b) (m : Int) (b.loads.length : Int) F so j) (b.loads.length : Int).toNat 0 0 = .brk (maskF 0 so j 0) := fun j hj => by
    rw [Int.toNat_natCast, loopR_foldl (c := crossR_c2 (setsR b) (m : Int) (b.loads.length : Int) F so j) (b := crossR_b2 (setsR b) (m : Int) (b.loads.length : Int) F so j) (fun (i : Nat) (v : Int) => bif ((so.getD i 0) == (j : Int)) then orI v (i : Int) else v) (fun k v hk => by simp only [crossR_c2]; rw [decide_eq_true]; omega) (fun k v hk => rfl), ← h, mask_fold so j so.length (Nat.le_refl _), List.take_length]
  have hbad : ∀ j, j < m → ((maskF 0 so j 0 == 0) || (!((setsR b).getD (maskF 0 so j 0).toNat false))) = badD (setsB b) (maskF 0 so j 0) := fun j hj => by
    obtain ⟨s, s1, s2, _⟩ := mask_spec (cs := so) (by omega) j
    rw [h] at s1
    rw [s2]
    unfold badD
    rw [sets_at s1, Int.toNat_natCast, setsR_eq hn.2, List.getD_eq_getElem?_getD, List.getElem?_map, List.getElem?_range s1, Option.map_some, Option.getD_some, can_together hv s1]
  have hkey := loopR_keep (c := crossR_c1 (setsR b) (m : Int) (b.loads.length : Int) F so) (b := crossR_b1 (setsR b) (m : Int) (b.loads.length : Int) F so) (N := m) (fun k _ => ∀ j, j < k → badD (setsB b) (maskF 0 so j 0) = false) (fun r => r = ([], false) ∧ ∃ j, j < m ∧ badD (setsB b) (maskF 0 so j 0) = true) (fun k v hk _ => by simp only [crossR_c1]; rw [decide_eq_true]; omega) (fun k v hk hp => by
    simp only [crossR_b1]
    rw [hgo k hk]
    simp only
    rw [hbad k hk]
    cases hc : badD (setsB b) (maskF 0 so k 0) with
    | true => exact .inr ⟨_, rfl, rfl, k, hk, hc⟩
    | false =>
      refine .inl ⟨_, rfl, fun j hj => ?_⟩
      by_cases e : j = k
      · subst e; exact hc
      · exact hp j (by omega)) () (fun j hj => absurd hj (Nat.not_lt_zero j))
  have hol : (ofs m so).length = m := by unfold ofs; simp
  unfold crossR
  rw [show ((so.length : Int) == (b.loads.length : Int)) = true by rw [h]; exact beq_self_eq_true _, cond_true, Int.toNat_natCast]
  rcases hkey with ⟨v, e, hp⟩ | ⟨r, e, rfl, j, hj, hq⟩
  · rw [e]
    have : containsD (setsB b) (ofs m so) = false := (contains_iff _ _).2 fun j hj => by rw [hol] at hj; rw [ofs_get so hj]; exact hp j hj
    rw [this]
    exact ⟨rfl, fun _ => rfl⟩
  · rw [e]
    have : containsD (setsB b) (ofs m so) = true := by
      cases hc : containsD (setsB b) (ofs m so) with
      | true => rfl
      | false =>
        have := (contains_iff _ _).1 hc j (by rw [hol]; exact hj)
        rw [ofs_get so hj, hq] at this; cases this
    rw [this]
    exact ⟨rfl, fun h => by cases h⟩
theorem crossR_step {b : DBook} {m : Nat} (F : List Int → List Int × Bool) {so : List Int} (h : so.length < b.loads.length) (hb : b.loads.length ≤ 5) : crossR (setsR b) (m : Int) (b.loads.length : Int) F so = ((List.range m).findSome? (gK F so)).getD ([], false) := by
  unfold crossR
  rw [show ((so.length : Int) == (b.loads.length : Int)) = false from beq_eq_false_iff_ne.2 (by omega), cond_false, Int.toNat_natCast]
  rw [loopR_some (c := crossR_c3 (setsR b) (m : Int) (b.loads.length : Int) F so) (b := crossR_b3 (setsR b) (m : Int) (b.loads.length : Int) F so) (gK F so) (fun k hk => by simp only [crossR_c3]; rw [decide_eq_true]; omega) (fun k hk => by
    simp only [crossR_b3, gK]
    rw [grown_eq (by omega)]
    generalize F (so ++ [(k : Int)]) = z
    obtain ⟨z1, z2⟩ := z
    cases z2 <;> rfl)]
  cases (List.range m).findSome? (gK F so) <;> rfl
theorem crossRD_eq {b : DBook} (hv : ValidD b) {m : Nat} (hm : m ≤ 5) : ∀ (r : Nat) (so : List Int), so.length + r = b.loads.length → EqT (crossRD (setsR b) (m : Int) (b.loads.length : Int) r so) (crossD b (setsB b) r so (ofs m so)) := by
  have hn := hv.n
  intro r
  induction r with
  | zero =>
    intro so h
    have := crossR_leaf hv hm (fun _ => ([], false)) (so := so) (by omega)
    show EqT (crossR _ _ _ _ so) (crossS b _ _ so (ofs m so))
    rw [crossS_eq, if_pos (by omega)]
    exact this
  | succ r ih =>
    intro so h
    show EqT (crossR _ _ _ (crossRD (setsR b) (m : Int) (b.loads.length : Int) r) so) (crossS b _ (crossD b (setsB b) r) so (ofs m so))
    rw [crossS_eq, if_neg (by omega), crossR_step _ (by omega) hn.2]
    have hol : (ofs m so).length = m := by unfold ofs; simp
    have : (List.range m).findSome? (gK (crossRD (setsR b) (m : Int) (b.loads.length : Int) r) so) = (List.range (ofs m so).length).findSome? (gC (crossD b (setsB b) r) so (ofs m so)) := by
      rw [hol]
      refine findSome_cg fun k hk => ?_
      have hk := List.mem_range.1 hk
      have h1 := ih (so ++ [(k : Int)]) (by rw [List.length_append, List.length_singleton]; omega)
      unfold gK gC
      rw [ofs_snoc so hk]
      cases hc : (crossRD (setsR b) (m : Int) (b.loads.length : Int) r (so ++ [(k : Int)])).2 with
      | true =>
        rw [← h1.1, hc, cond_true, cond_true, h1.2 hc]
      | false => rw [← h1.1, hc, cond_false, cond_false]
    rw [this]
    exact ⟨rfl, fun _ => rfl⟩
theorem fewest_same (b : DBook) : fewestA b = FewestR b := by
  rcases checkD_two b with h | h
  · have hv := checkD_valid.1 h
    have hn := hv.n
    unfold fewestA FewestR
    rw [← check_same, h]
    have hsets : loopR (fewestA_c1 b) (fewestA_b1 b) (2 ^ b.loads.length) 0 ([] : List (Int × Bool)) = .brk (setsB b) := by
      rw [loopR_app (c := fewestA_c1 b) (b := fewestA_b1 b) (fun k : Nat => [((k : Int), togetherD b (k : Int))]) (fun k v hk => by simp only [fewestA_c1]; rw [all_wrap hv.n.2, decide_eq_true]; omega) (fun k v hk => rfl)]
      rw [← List.map_eq_flatMap]; rfl
    rw [hsets]
    simp only
    have hE : ∀ k, k < b.loads.length → EqT (crossRD (setsR b) (1 + (k : Int)) (b.loads.length : Int) b.loads.length []) (crossD b (setsB b) b.loads.length [] (List.replicate (IntKind.i64.wrap ((k : Int) + 1)).toNat 0)) := fun k hk => by
      have := crossRD_eq hv (m := k + 1) (by omega) b.loads.length [] (by simp)
      rw [ofs_nil] at this
      rw [wrapI (by omega) (by omega), show ((k : Int) + 1).toNat = k + 1 by omega, show 1 + (k : Int) = ((k + 1 : Nat) : Int) by omega]
      exact this
    have hfs : ∀ k, k < b.loads.length → (bif (crossRD (setsR b) (1 + (k : Int)) (b.loads.length : Int) b.loads.length []).2 then some ((crossRD (setsR b) (1 + (k : Int)) (b.loads.length : Int) b.loads.length []).1, (0 : Int)) else none) = (bif (crossD b (setsB b) b.loads.length [] (List.replicate (IntKind.i64.wrap ((k : Int) + 1)).toNat 0)).2 then some ((crossD b (setsB b) b.loads.length [] (List.replicate (IntKind.i64.wrap ((k : Int) + 1)).toNat 0)).1, (0 : Int)) else none) := fun k hk => by
      have h1 := hE k hk
      cases hc : (crossRD (setsR b) (1 + (k : Int)) (b.loads.length : Int) b.loads.length []).2 with
      | true => rw [← h1.1, hc, cond_true, cond_true, h1.2 hc]
      | false => rw [← h1.1, hc, cond_false, cond_false]
    rw [loopR_some (c := fewestA_c2 b (setsB b)) (b := fewestA_b2 b (setsB b)) (fun k => bif (crossD b (setsB b) b.loads.length [] (List.replicate (IntKind.i64.wrap ((k : Int) + 1)).toNat 0)).2 then some ((crossD b (setsB b) b.loads.length [] (List.replicate (IntKind.i64.wrap ((k : Int) + 1)).toNat 0)).1, (0 : Int)) else none) (fun k hk => by simp only [fewestA_c2]; rw [decide_eq_true]; omega) (fun k hk => by
      simp only [fewestA_b2]
      cases (crossD b (setsB b) b.loads.length [] (List.replicate (IntKind.i64.wrap ((k : Int) + 1)).toNat 0)).2 <;> rfl)]
    rw [loopR_some (c := FewestR_c1 b) (b := FewestR_b1 b) (fun k => bif (crossRD (setsR b) (1 + (k : Int)) (b.loads.length : Int) b.loads.length []).2 then some ((crossRD (setsR b) (1 + (k : Int)) (b.loads.length : Int) b.loads.length []).1, (0 : Int)) else none) (fun k hk => by simp only [FewestR_c1]; rw [decide_eq_true]; omega) (fun k hk => by
      simp only [FewestR_b1]
      cases (crossRD (setsR b) (1 + (k : Int)) (b.loads.length : Int) b.loads.length []).2 <;> rfl)]
    rw [findSome_cg (l := List.range b.loads.length) fun k hk => hfs k (List.mem_range.1 hk)]
    generalize (List.range b.loads.length).findSome? _ = z
    cases z <;> rfl
  · rw [fewest_bad h]
    unfold FewestR
    rw [← check_same, h]; rfl
theorem never_same (b : DBook) : neverA b = NeverR b := by
  rcases checkD_two b with h | h
  · have hv := checkD_valid.1 h
    have hn := hv.n
    obtain ⟨hpw, hpl⟩ := pow_wrap hn.2
    have hsl := setsR_len hn.2
    obtain ⟨v, h1, h2, _⟩ := some_spec hv
    rw [never_M hv h1 h2]
    unfold NeverR
    rw [← check_same, h, hsl, loopR_foldl (c := NeverR_c1 b) (b := NeverR_b1 b) (fun (k : Nat) (v : Int) => bif (togetherD b (k : Int)) then IntKind.i64.wrap (BitVec.ofInt IntKind.i64.bits v ||| BitVec.ofInt IntKind.i64.bits (k : Int)).toNat else v) (fun k v hk => by simp only [NeverR_c1]; rw [hsl, decide_eq_true]; omega) (fun k v hk => by
      simp only [NeverR_b1]
      have hg : (setsR b).getD k false = togetherD b (k : Int) := by
        rw [setsR_eq hn.2, List.getD_eq_getElem?_getD, List.getElem?_map, List.getElem?_range hk]; exact can_together hv hk
      rw [hg])]
    have hsm : (List.range (2 ^ b.loads.length)).foldl (fun (v : Int) (k : Nat) => bif (togetherD b (k : Int)) then IntKind.i64.wrap (BitVec.ofInt IntKind.i64.bits v ||| BitVec.ofInt IntKind.i64.bits (k : Int)).toNat else v) 0 = (v : Int) := h2
    rw [hsm]
    show (M b.loads.length (2 ^ b.loads.length - 1 - v), (0 : Int)) = (membersF (IntKind.i64.wrap (IntKind.i64.wrap (_ - 1) - (v : Int))) (b.loads.length : Int), (0 : Int))
    rw [hpw, wrapI (x := _ - 1) (by omega) (by omega), wrapI (by omega) (by omega)]
    unfold M
    congr 2
    omega
  · rw [never_bad h]
    unfold NeverR
    rw [← check_same, h]; rfl
theorem weighR_spec {b : DBook} (hv : ValidD b) : (WeighR b = (0, 4) ∧ ∀ j, j < b.loads.length → ¬ openW b j) ∨ ∃ j : Nat, j < b.loads.length ∧ openW b j ∧ WeighR b = ((j : Int), 0) ∧ ∀ i, i < b.loads.length → openW b i → W b i ≤ W b j ∧ (i < j → W b i < W b j) := by
  have hn := hv.n
  unfold WeighR
  rw [checkR_valid.2 hv]
  rcases loopR_keep (c := WeighR_c1 b) (b := WeighR_b1 b) (N := b.loads.length) (fun k v => (v = (0, -1) ∧ ∀ j, j < k → ¬ openW b j) ∨ ∃ j : Nat, j < k ∧ openW b j ∧ v = (W b j, (j : Int)) ∧ ∀ i, i < k → openW b i → W b i ≤ W b j ∧ (i < j → W b i < W b j)) (fun _ => False) (fun k v hk _ => by obtain ⟨v1, v2⟩ := v; simp only [WeighR_c1]; rw [decide_eq_true]; omega) (fun k v hk hp => by
    obtain ⟨v1, v2⟩ := v
    have hw := (hv.load hk).1
    left
    simp only [WeighR_b1]
    by_cases ho : openW b k
    · have ho' : (b.loads.getD k zLoad).w.lo < (b.loads.getD k zLoad).w.hi := ho
      rw [show ((b.loads.getD k zLoad).w.lo == (b.loads.getD k zLoad).w.hi) = false from beq_eq_false_iff_ne.2 (by omega), cond_false]
      have hin : loopR (WeighR_c2 b k v1 v2) (WeighR_b2 b k v1 v2) ((b.loads.getD k zLoad).w.hi - (b.loads.getD k zLoad).w.lo + 1).toNat 0 (b.loads.length : Int) = .brk (W b k) := by
        rw [loopR_foldl (c := WeighR_c2 b k v1 v2) (b := WeighR_b2 b k v1 v2) (fun (i : Nat) (v : Int) => mn v ((mostD (bookW b k ((b.loads.getD k zLoad).w.lo + (i : Int)))).length : Int)) (fun i v hi => by simp only [WeighR_c2]; rw [decide_eq_true]; omega) (fun i v hi => by
          simp only [WeighR_b2]
          have he : weighedR b (k : Int) ((b.loads.getD k zLoad).w.lo + (i : Int)) = bookW b k ((b.loads.getD k zLoad).w.lo + (i : Int)) := by
            unfold weighedR bookW
            rw [Int.toNat_natCast]; rfl
          rw [he, most_fold (bookW_valid hv hk (by omega))])]
        rfl
      rw [hin]
      simp only
      refine ⟨_, rfl, ?_⟩
      rcases hp with ⟨e, hno⟩ | ⟨j, hj, hoj, e, hbest⟩
      · obtain ⟨rfl, rfl⟩ := Prod.mk.inj e
        right
        exact ⟨k, by omega, ho, rfl, fun i hi hoi => by
          rcases Nat.lt_or_ge i k with h1 | h1
          · exact absurd hoi (hno i h1)
          · obtain rfl : i = k := by omega
            exact ⟨Int.le_refl _, fun h => absurd h (Nat.lt_irrefl _)⟩⟩
      · obtain ⟨rfl, rfl⟩ := Prod.mk.inj e
        right
        rw [decide_eq_false (show ¬ (j : Int) < 0 by omega), Bool.false_or]
        by_cases hgt : W b k > W b j
        · rw [decide_eq_true hgt, cond_true, cond_true]
          exact ⟨k, by omega, ho, rfl, fun i hi hoi => by
            rcases Nat.lt_or_ge i k with h1 | h1
            · have := (hbest i h1 hoi).1; exact ⟨by omega, fun _ => by omega⟩
            · obtain rfl : i = k := by omega
              exact ⟨Int.le_refl _, fun h => absurd h (Nat.lt_irrefl _)⟩⟩
        · rw [decide_eq_false hgt, cond_false, cond_false]
          exact ⟨j, by omega, hoj, rfl, fun i hi hoi => by
            rcases Nat.lt_or_ge i k with h1 | h1
            · exact hbest i h1 hoi
            · obtain rfl : i = k := by omega
              exact ⟨by omega, fun h => by omega⟩⟩
    · have ho' : ¬ (b.loads.getD k zLoad).w.lo < (b.loads.getD k zLoad).w.hi := ho
      rw [show ((b.loads.getD k zLoad).w.lo == (b.loads.getD k zLoad).w.hi) = true from beq_iff_eq.2 (by omega), cond_true]
      refine ⟨_, rfl, ?_⟩
      rcases hp with ⟨e, hno⟩ | ⟨j, hj, hoj, e, hbest⟩
      · exact .inl ⟨e, fun j hj => by
          by_cases e2 : j = k
          · subst e2; exact ho
          · exact hno j (by omega)⟩
      · exact .inr ⟨j, by omega, hoj, e, fun i hi hoi => by
          rcases Nat.lt_or_ge i k with h1 | h1
          · exact hbest i h1 hoi
          · obtain rfl : i = k := by omega
            exact absurd hoi ho⟩) (0, -1) (.inl ⟨rfl, fun j hj => absurd hj (Nat.not_lt_zero j)⟩) with ⟨v, e, hp⟩ | ⟨r, e, hf⟩
  · rw [e]
    rcases hp with ⟨rfl, hno⟩ | ⟨j, hj, hoj, rfl, hbest⟩
    · exact .inl ⟨rfl, hno⟩
    · refine .inr ⟨j, hj, hoj, ?_, hbest⟩
      show (bif decide ((j : Int) < 0) then _ else _) = _
      rw [decide_eq_false (by omega)]; rfl
  · exact hf.elim
theorem weigh_same (b : DBook) : weighA b = WeighR b := by
  rcases checkD_two b with h | h
  · have hv := checkD_valid.1 h
    rcases weigh_spec hv with ⟨e, h1⟩ | ⟨j, hj, hoj, e, h1⟩ <;> rcases weighR_spec hv with ⟨e2, h2⟩ | ⟨i, hi, hoi, e2, h2⟩
    · rw [e, e2]
    · exact absurd hoi (h1 i hi)
    · exact absurd hoj (h2 j hj)
    · have a := h1 i hi hoi
      have c := h2 j hj hoj
      have : i = j := by
        rcases Nat.lt_trichotomy i j with h3 | h3 | h3
        · have := a.2 h3; omega
        · exact h3
        · have := c.2 h3; omega
      rw [e, e2, this]
  · rw [weigh_bad h]
    unfold WeighR
    rw [← check_same, h]; rfl
end Go.Proofs.YthfnedbpmdkdjaaDoor.D
namespace Go.Proofs.YthfnedbpmdkdjaaDoor.D
open Go Go.RowKit Go.Proofs.YthfnedbpmdkdjaaDoor.Eng Go.Proofs.YthfnedbpmdkdjaaDoor.Cm
set_option linter.unusedVariables false
theorem DeckFewests_true (b : DBook) : DeckFewestsL b = true := by
  unfold DeckFewestsL deckFewestsL
  rw [stowedL_true]
  simp only [ownDeckF]
  rw [keptDeck_self, fewest_same b, never_same b, weigh_same b, alike_self, alike_self]
  simp
end Go.Proofs.YthfnedbpmdkdjaaDoor.D
namespace Go.Proofs.YthfnedbpmdkdjaaDoor.D
open Go Go.ChangeShapes Go.WideShapes Go.RowKit Go.Proofs.YthfnedbpmdkdjaaDoor.Eng Go.Proofs.YthfnedbpmdkdjaaDoor.Cm
set_option linter.unusedVariables false
set_option linter.unusedSimpArgs false
set_option maxRecDepth 100000
namespace DeckFewests
theorem door_met_deckFewests (os : Os) (args : Array Value) : laidMetH Tryd.prog Rows.deckFewestsRow.laid ((World.doorLaid Tryd.prog 30 os).forCall (fun _ _ => 0) ⟨#[], args, []⟩).memory :=
  laidMetH_of_parts3 (fuel := 8) (laidMet_of_run' 8 (by kernel_rfl) (by kernel_rfl)) (by kernel_rfl) (by kernel_rfl)
theorem contract (H : Type) (enc : TypeId × Value → H) (W : World) (base : Nat) (args : Array Value) (ds gs : List (DataW H)) (before : List MemPlace)
    (hval : ∀ (j : Nat) t v, Tryd.f5.params[j]? = some t → args[j]? = some v → Value.okWide Tryd.prog W .any base t v)
    (hW : DataW.Whole enc Tryd.prog Tryd.f5.params.toList Rows.deckFewestsSpec.vars false W args.toList ds gs before)
    (hsz0 : (DataW.weightsEach Tryd.prog (Tryd.f5.params.toList ++ []) (ds ++ gs)).all (fun x => decide (x ≤ reachBytes)) = true) (hL : laidMetH Tryd.prog Rows.deckFewestsRow.laid W) (hS : W.ShapedOpen Tryd.prog) :
    Calls Tryd.prog 5 args W fun e W' => ∃ v, e = .returned v ∧ Rows.deckFewestsSpec.post enc Tryd.prog Tryd.f5 false true false false W args v W' := by
  have hW' := hW
  obtain ⟨p, q, hA0, hV, rfl, hfz, hnd⟩ := hW
  have hA : DataW.TrodAll enc Tryd.prog W 0 (fun _ => true) true Tryd.f5.params.toList args.toList ds p := hA0
  rw [Tryd.params5] at hA hval hsz0
  clear hA0
  obtain ⟨v0, vs0, d0, ds0, p0, q0, hargs, rfl, rfl, h0, r0⟩ := trodAll_cons hA
  obtain ⟨rfl, rfl, rfl⟩ := trodAll_nil r0
  obtain rfl : args = #[v0] := by apply Array.ext'; rw [hargs]
  obtain ⟨rfl, rfl⟩ := trodVars_none hV
  have hsz : (DataW.weightsEach Tryd.prog [24] [d0]).all (fun x => decide (x ≤ reachBytes)) = true := by simpa using hsz0
  have hb0 : Wb Tryd.prog 24 d0 := Bd_each hsz (j := 0) rfl rfl
  obtain ⟨c0, rfl, ⟨g0_0, x0, y0, q0_0, q0_1, q0_2, _⟩⟩ := arg_agg Tryd.underlying24 (hval 0 24 v0 rfl rfl) h0 hb0 opn24
  rw [agg_of y0] at *
  have ha := deck_of hS hL
  have hc := DeckFewestsL_calls g0_0 x0 W q0_0.1 ha.1 ha.2 (Nat.le_trans q0_0.2.2 (by decide))
  refine hc.mono fun e W' ⟨he, hb⟩ => ?_
  refine ⟨.bool true, he.trans (by rw [DeckFewests_true x0]), law_post laidOut (fun u hu => ?_) hW' rfl (by kernel_rfl) Tryd.underlying4 rfl rfl rfl hb⟩
  have hall : ([24] : List TypeId).all (fun u => Tryd.prog.readableRec u && decide (u < Tryd.prog.types.size)) = true := by kernel_rfl
  have hu' : u ∈ ([24] : List TypeId) := hu
  have := List.all_eq_true.1 hall u hu'
  simp only [Bool.and_eq_true, decide_eq_true_eq] at this
  exact this
theorem reads (os : Os) {H : Type} (enc : TypeId × Value → H) : ∃ places, DataW.whole enc Tryd.prog ((World.doorLaid Tryd.prog 30 os).forCall (fun _ _ => 0) ⟨#[], #[.agg #[.slice none 0 0, .int .i64 0, .int .i64 0]], []⟩).memory Tryd.f5.params.toList Rows.deckFewestsSpec.vars false (#[.agg #[.slice none 0 0, .int .i64 0, .int .i64 0]] : Array Value).toList 8 = some ([.agg [.nil, .lit (.int .i64 0), .lit (.int .i64 0)]], [], places) :=
  ⟨[], by kernel_rfl⟩
set_option maxRecDepth 100000 in
theorem lifted (os : Os) (started : os.Started) (H : Type) (enc : TypeId × Value → H) (F : Stop.Interp) :
    ReturnsInHanded {} Tryd.checked os 5 .any ((OpenSpec.ofChange Rows.deckFewestsSpec).preRow enc Tryd.prog Tryd.f5 Rows.deckFewestsRow.domain false Rows.deckFewestsRow.laid) (((OpenSpec.ofChange Rows.deckFewestsSpec).at F).post enc Tryd.prog Tryd.f5 false true false false) := by
  obtain ⟨places, hx⟩ := reads os enc
  refine returnsInHanded_of_row (C := Tryd.checked) (s := OpenSpec.ofChange Rows.deckFewestsSpec) own started (by kernel_rfl) Tryd.func5
    (witness_row_atRef (enc := enc) (C := Tryd.checked) false (World.doorLaid Tryd.prog 30 os) #[.agg #[.slice none 0 0, .int .i64 0, .int .i64 0]] rfl (by kernel_rfl) (by kernel_rfl) (by kernel_rfl)
      (OpenSpec.preRow_of_cond 8 hx (by kernel_rfl) (fun k hk => by cases hk) (by kernel_rfl) (door_met_deckFewests os _))) ?_
  intro W base args ds gs before hval hW _ hcond hsz hL hS _
  exact contract H enc W base args ds gs before hval hW hsz hL hS
theorem said : Rows.DeckFewestsSaid :=
  OpenClaim.holds_of_cond 5 Tryd.f5 rfl rfl rfl rfl rfl rfl rfl ⟨rfl, rfl, rfl, rfl, rfl⟩ rfl rfl rfl rfl rfl (by kernel_rfl) Tryd.func5 (by kernel_rfl)
    (of_decide_eq_true (by kernel_rfl)) (by unfold Func.isWrapper; first | (rw [if_pos (by decide +kernel)]; kernel_rfl) | (rw [if_neg (by decide +kernel)]; exact ⟨rfl, rfl⟩))
    (fun os started H enc _ F => by rw [OpenClaim.pre_eq_preRow]; exact lifted os started H enc F)
theorem plain (f : FuncId) (fn : Func) (hf : Tryd.pinned.checked.prog.funcNamed "prow/prowlaw03.DeckFewests" = some f) (hfn : Tryd.pinned.checked.prog.funcs[f]? = some fn) :
    false = Tryd.pinned.checked.prog.looks [] ∧ ∀ (j : Nat) t, fn.params[j]? = some t → Tryd.pinned.checked.prog.wantsStandIn t = false := by
  obtain rfl : f = 5 := Option.some.inj ((show Tryd.prog.funcNamed "prow/prowlaw03.DeckFewests" = some 5 by kernel_rfl).symm.trans hf) |>.symm
  obtain rfl : fn = Tryd.f5 := (Option.some.inj (Tryd.func5.symm.trans hfn)).symm
  refine ⟨by kernel_rfl, fun j t ht => ?_⟩
  rw [Tryd.params5] at ht
  have hm : t ∈ ([24] : List TypeId) := by simpa using Array.mem_of_getElem? ht
  have hall : (([24] : List TypeId).all fun u => !Tryd.prog.wantsStandIn u) = true := by kernel_rfl
  exact (show Tryd.prog.wantsStandIn t = false by simpa using List.all_eq_true.1 hall t hm)
theorem card : Rows.DeckFewestsCardSaid :=
  Claim7.holds_tied_plain_at .later [] _ _ _ _ said (fun _ h => by cases h) (by kernel_rfl) (fun _ h => by cases h) deckFewests_row_tie rfl ⟨rfl, rfl⟩ (by kernel_rfl) rfl plain (by kernel_rfl)
end DeckFewests
end Go.Proofs.YthfnedbpmdkdjaaDoor.D
theorem Go.Proofs.YthfnedbpmdkdjaaDoor.deckFewests_holds : Go.Proofs.YthfnedbpmdkdjaaDoor.Rows.DeckFewestsCardSaid := Go.Proofs.YthfnedbpmdkdjaaDoor.D.DeckFewests.card
