/- Parts of the proof of DeckFewests: the engine, contracts of functions, plain lemmas. -/
import Derived.Test.YthfnedbpmdkdjaaDoorDeckFewestsA2
import Derived.ArgAppend
import Derived.Below
import Derived.Carry
import Derived.ChangeKeysEq
import Derived.ControlIn
import Derived.Deep.DeepHandedRow
import Derived.Deep.DeepWitnessRowRef
import Derived.Deep.Draws
import Derived.Deep.Quiet
import Derived.Deep.Slices
import Derived.KernelRfl
import Derived.LaidMore
import Derived.Laws.AppendOwn
import Derived.Laws.Cells
import Derived.Laws.CopyRow
import Derived.Laws.IdiomCopy
import Derived.Laws.IdiomRangeMap
import Derived.Laws.OwnMore
import Derived.Laws.Rows
import Derived.MapKept
import Derived.Maps.AppendAt
import Derived.OpenShut
import Derived.OrdersHeld
import Derived.OrdersIn
import Derived.ProofKit
import Derived.RangeFuncLeaves
import Derived.RangeFuncNested
import Derived.RangeFuncOwn
import Derived.SevenTiedAt
import Derived.SizedLaws
import Derived.Stop.Joined
import Derived.Test.YthfnedbpmdkdjaaDoorCards
import Derived.Test.YthfnedbpmdkdjaaDoorProg
import Derived.Test.YthfnedbpmdkdjaaDoorRows
import Derived.Test.YthfnedbpmdkdjaaDoorTie
import Derived.WalkKit
import Derived.WideKeyRuns
namespace Go.Proofs.YthfnedbpmdkdjaaDoor.D
open Go Go.RowKit Go.Proofs.YthfnedbpmdkdjaaDoor.Eng Go.Proofs.YthfnedbpmdkdjaaDoor.Cm
set_option linter.unusedVariables false
set_option linter.unusedSimpArgs false
set_option linter.unusedSectionVars false
def CrossC (b : DBook) (S : List (Int × Bool)) (sv : Value) (gx gt gs gc : Nat) (R : Nat → Nat → Prop) (F : List Int → List Int → List Int × Bool) : Prop := ∀ (tv uv : Value) (so of : List Int) (w : World), R so.length of.length → Reads w sv 3 b.loads encLoad zLoad → Reads w tv 1 so encI 0 → Reads w uv 1 of encI 0 → (fun w => w.heap[gx]? = some (.cells #[sv, iv b.rule, iv b.most] 24 (0, 0))) w → (fun w => w.heap[gt]? = some (.cells #[.map (some gs)] 109 (0, 0))) w → (fun w => w.heap[gc]? = some (.cells #[.func (.func 98) #[] #[.pointer (some ⟨gx, 0, none⟩), .pointer (some ⟨gt, 0, none⟩), .pointer (some ⟨gc, 0, none⟩)]] 112 (0, 0))) w → (fun w => w.heap[gs]? = some (.map (ents S stKey stVal) S.length)) w →
    Calls Tryd.prog 98 #[tv, uv, .pointer (some ⟨gx, 0, none⟩), .pointer (some ⟨gt, 0, none⟩), .pointer (some ⟨gc, 0, none⟩)] w fun e w' => ∃ v, e = .returned (.tuple #[v, .bool (F so of).2]) ∧ Below w.heap.size w w' ∧ Reads w' v 1 (F so of).1 encI 0 ∧ (∀ g, vblk v = some g → vblk tv = some g ∨ (w.heap.size ≤ g ∧ g < w'.heap.size))
def crossS_c1 (b : DBook) (S : List (Int × Bool)) (F : List Int → List Int → List Int × Bool) (so : List Int) (of : List Int) (k1 : Nat) : Unit → Bool := fun _ => decide ((k1 : Int) < (of.length : Int))
def crossS_b1 (b : DBook) (S : List (Int × Bool)) (F : List Int → List Int → List Int × Bool) (so : List Int) (of : List Int) (k1 : Nat) : Unit → Bd Unit (List Int × Bool) := fun _ => (bif (F ((cut so 0 (so.length : Int)) ++ ([(k1 : Int)])) ((cloneI of).set k1 (IntKind.i64.wrap (BitVec.ofInt IntKind.i64.bits ((cloneI of).getD k1 0) ||| BitVec.ofInt IntKind.i64.bits (IntKind.i64.wrap (1 * 2 ^ (min (so.length : Int).toNat IntKind.i64.bits)))).toNat))).2 then .ret ((F ((cut so 0 (so.length : Int)) ++ ([(k1 : Int)])) ((cloneI of).set k1 (IntKind.i64.wrap (BitVec.ofInt IntKind.i64.bits ((cloneI of).getD k1 0) ||| BitVec.ofInt IntKind.i64.bits (IntKind.i64.wrap (1 * 2 ^ (min (so.length : Int).toNat IntKind.i64.bits)))).toNat))).1, true) else .go ())
def crossS (b : DBook) (S : List (Int × Bool)) (F : List Int → List Int → List Int × Bool) (so : List Int) (of : List Int) : List Int × Bool :=
  (bif (so.length : Int) == (b.loads.length : Int) then (so, !(containsD S of)) else (match loopR (crossS_c1 b S F so of) (crossS_b1 b S F so of) of.length 0 () with | .brk () => ([], false) | .ret r => r))
theorem crossS_calls (b : DBook) (S : List (Int × Bool)) (F : List Int → List Int → List Int × Bool) (R : Nat → Nat → Prop) (so of : List Int) (sv tv uv : Value) (gx gt gs gc : Nat) (w : World) (rb : Reads w sv 3 b.loads encLoad zLoad) (rs : Reads w tv 1 so encI 0) (ro : Reads w uv 1 of encI 0) (hx : (fun w => w.heap[gx]? = some (.cells #[sv, iv b.rule, iv b.most] 24 (0, 0))) w) (hs : (fun w => w.heap[gt]? = some (.cells #[.map (some gs)] 109 (0, 0))) w) (hc : (fun w => w.heap[gc]? = some (.cells #[.func (.func 98) #[] #[.pointer (some ⟨gx, 0, none⟩), .pointer (some ⟨gt, 0, none⟩), .pointer (some ⟨gc, 0, none⟩)]] 112 (0, 0))) w) (hms : (fun w => w.heap[gs]? = some (.map (ents S stKey stVal) S.length)) w) (hb5 : b.loads.length ≤ 5) (hso : so.length ≤ b.loads.length) (hof : of.length ≤ 5) (hF : CrossC b S sv gx gt gs gc R F) (hR : so.length < b.loads.length → R (so.length + 1) of.length) : Calls Tryd.prog 98 #[tv, uv, .pointer (some ⟨gx, 0, none⟩), .pointer (some ⟨gt, 0, none⟩), .pointer (some ⟨gc, 0, none⟩)] w fun e w' => ∃ v, e = .returned (.tuple #[v, .bool (crossS b S F so of).2]) ∧ Below w.heap.size w w' ∧ Reads w' v 1 (crossS b S F so of).1 encI 0 ∧ (∀ g, vblk v = some g → vblk tv = some g ∨ (w.heap.size ≤ g ∧ g < w'.heap.size)) := by
  refine calls_of_WP (cx := cx0 w (vn [sv, tv, uv]) 3) (n := vn [sv, tv, uv]) (vs := [.s (.ref 1), .s (.ref 2), .s (.v (.pointer (some ⟨gx, 0, none⟩))), .s (.v (.pointer (some ⟨gt, 0, none⟩))), .s (.v (.pointer (some ⟨gc, 0, none⟩)))]) (hp := [(0, .sl .ro 61 3 b.loads encLoad zLoad), (1, .sl .ro 3 1 so encI 0), (2, .sl .ro 3 1 of encI 0), (3, .pf (fun w => w.heap[gx]? = some (.cells #[sv, iv b.rule, iv b.most] 24 (0, 0))) (· = gx)), (4, .pf (fun w => w.heap[gt]? = some (.cells #[.map (some gs)] 109 (0, 0))) (· = gt)), (5, .pf (fun w => w.heap[gc]? = some (.cells #[.func (.func 98) #[] #[.pointer (some ⟨gx, 0, none⟩), .pointer (some ⟨gt, 0, none⟩), .pointer (some ⟨gc, 0, none⟩)]] 112 (0, 0))) (· = gc)), (6, mapF gs S stKey stVal)]) (nx := 7) tt_ok Tryd.func98 rfl rfl rfl (by kernel_rfl) (HSat_args (vn_one (by simp [rb.one, rs.one, ro.one])) (by decide) ⟨⟨⟨fun _ => rfl, by decide, rb⟩, (Nat.le_of_ble_eq_true rfl)⟩, ⟨⟨fun _ => rfl, by decide, rs⟩, (Nat.le_of_ble_eq_true rfl)⟩, ⟨⟨fun _ => rfl, by decide, ro⟩, (Nat.le_of_ble_eq_true rfl)⟩, ⟨⟨hx, fun w1 w2 h1 hw => (hw gx rfl).trans h1, fun g hg => by cases hg; exact (Array.getElem?_eq_some_iff.1 hx).1⟩, (Nat.le_of_ble_eq_true rfl)⟩, ⟨⟨hs, fun w1 w2 h1 hw => (hw gt rfl).trans h1, fun g hg => by cases hg; exact (Array.getElem?_eq_some_iff.1 hs).1⟩, (Nat.le_of_ble_eq_true rfl)⟩, ⟨⟨hc, fun w1 w2 h1 hw => (hw gc rfl).trans h1, fun g hg => by cases hg; exact (Array.getElem?_eq_some_iff.1 hc).1⟩, (Nat.le_of_ble_eq_true rfl)⟩, ⟨⟨hms, fun w1 w2 h1 hw => (hw gs rfl).trans h1, fun g hg => by cases hg; exact (Array.getElem?_eq_some_iff.1 hms).1⟩, (Nat.le_of_ble_eq_true rfl)⟩, trivial⟩) (vsOk (by kernel_rfl)) ?_
  have hcut : (cut so 0 (so.length : Int)).length = so.length := by simp [cut]
  have hcl : (cloneI of).length = of.length := rfl
  have hR1 : ∀ (x y : Int) (k : Nat), so.length < b.loads.length → R (cut so 0 (so.length : Int) ++ [x]).length ((cloneI of).set k y).length := by
    intro x y k h1; have := hR h1; rw [List.length_append, hcut, List.length_set, hcl]; exact this
  refine WP_seq (WP_region (WPO_all tt_ok (by kernel_rfl) ?_))
  refine WP_seq (WP_region (WPO_all tt_ok (by kernel_rfl) ?_))
  refine WP_seq (WP_seq (WP_region (WPO_run tt_ok 2 (by kernel_rfl) ?_)))
  refine LDGo tt_ok 22 gx 0 (some 18) [.ref 0, .int .i64 b.rule, .int .i64 b.most] 24 (.s (.ref 0)) (by kernel_rfl) (by kernel_rfl) (by kernel_rfl) (fun nV w h => (by have e0 : nV 0 = sv := h.ini 0 (by show 0 < 3; decide); have h3 := (h.ents (3, .pf (fun w => w.heap[gx]? = some (.cells #[sv, iv b.rule, iv b.most] 24 (0, 0))) (· = gx)) (fnd_mem (by kernel_rfl))).1; rw [← e0] at h3; exact h3)) (by kernel_rfl) ?_
  refine WPO_all tt_ok (by kernel_rfl) ?_
  refine WP_cond ((so.length : Int) == (b.loads.length : Int)) (by kernel_rfl) (fun hc2 => ?_) (fun hc2 => ?_)
  · have hc2' := hc2; try simp only [Bool.and_eq_true, Bool.or_eq_true, Bool.and_eq_false_iff, Bool.or_eq_false_iff, Bool.not_eq_true', Bool.not_eq_false', decide_eq_true_eq, decide_eq_false_iff_not, beq_iff_eq, beq_eq_false_iff_ne, bne_iff_ne, bne_eq_false_iff_eq, ne_eq] at hc2'
    refine WP_seq (WP_region (WPO_run tt_ok 3 (by kernel_rfl) ?_))
    refine CALL 99 [.s (.ref 2), .s (.ref 7)] (.s (.bool (containsD S of))) [] (by kernel_rfl) (goes_of (by kernel_rfl)) (by kernel_rfl) (by kernel_rfl) (fun _ nV w h => (by have e9 : nV 7 = .func (.func 100) #[] #[.pointer (some ⟨gt, 0, none⟩)] := h.ents (7, .clo 100 [] [.s (.v (.pointer (some ⟨gt, 0, none⟩)))]) (fnd_mem (by kernel_rfl)); show Calls _ _ #[nV 2, nV 7] _ _; rw [e9]; exact containsD_calls S gt gs (nV 2) of w (h.reads (id := 2) (kd := .ro) (e := 3) (by kernel_rfl)) (h.ents (4, .pf (fun w => w.heap[gt]? = some (.cells #[.map (some gs)] 109 (0, 0))) (· = gt)) (fnd_mem (by kernel_rfl))).1 (h.ents (6, mapF gs S stKey stVal) (fnd_mem (by kernel_rfl))).1)) ?_
    refine WPO_all tt_ok (by kernel_rfl) ?_
    refine WP_ret ?_
    exact ⟨.t [(false, [.ref 1]), (false, [.bool (!(containsD S of))])], by kernel_rfl, fun nV w' h => ⟨nV 1, by rw [show crossS b S F so of = (so, !(containsD S of)) from by unfold crossS; simp only [hc2, cond_true, cond_false]]; rfl, h.bel, by rw [show crossS b S F so of = (so, !(containsD S of)) from by unfold crossS; simp only [hc2, cond_true, cond_false]]; exact h.reads (id := 1) (kd := .ro) (e := 3) (by kernel_rfl), fun g hg => .inl (by have e2 : nV 1 = tv := h.ini 1 (by show 1 < 3; decide); rw [← e2]; exact hg)⟩⟩
  have hc2' := hc2; try simp only [Bool.and_eq_true, Bool.or_eq_true, Bool.and_eq_false_iff, Bool.or_eq_false_iff, Bool.not_eq_true', Bool.not_eq_false', decide_eq_true_eq, decide_eq_false_iff_not, beq_iff_eq, beq_eq_false_iff_ne, bne_iff_ne, bne_eq_false_iff_eq, ne_eq] at hc2'
  refine WP_skip ?_
  refine WP_seq (WP_seq (WP_region (WPO_all tt_ok (by kernel_rfl) ?_)))
  refine WP_loopA (ρ := List Int × Bool) (crossS_c1 b S F so of) (crossS_b1 b S F so of) of.length () (fun k : Nat => (k : Int)) (fun (ci : Int) (zz : Unit) => ⟨57, [(28, [], .s (.int .i64 ci)), (27, [], .s (.int .i64 (of.length : Int))), (9, [], .s (.int .i64 (so.length : Int))), (0, [], .s (.ref 1)), (1, [], .s (.ref 2)), (4, [], .s (.v (.pointer (some ⟨gc, 0, none⟩))))], [(0, .sl .ro 61 3 b.loads encLoad zLoad), (1, .sl .ro 3 1 so encI 0), (2, .sl .ro 3 1 of encI 0), (3, .pf (fun w => w.heap[gx]? = some (.cells #[sv, iv b.rule, iv b.most] 24 (0, 0))) (· = gx)), (4, .pf (fun w => w.heap[gt]? = some (.cells #[.map (some gs)] 109 (0, 0))) (· = gt)), (5, .pf (fun w => w.heap[gc]? = some (.cells #[.func (.func 98) #[] #[.pointer (some ⟨gx, 0, none⟩), .pointer (some ⟨gt, 0, none⟩), .pointer (some ⟨gc, 0, none⟩)]] 112 (0, 0))) (· = gc)), (6, mapF gs S stKey stVal)], 7, []⟩) (fun zz : Unit => ⟨57, [], [(0, .sl .ro 61 3 b.loads encLoad zLoad), (1, .sl .ro 3 1 so encI 0), (2, .sl .ro 3 1 of encI 0), (3, .pf (fun w => w.heap[gx]? = some (.cells #[sv, iv b.rule, iv b.most] 24 (0, 0))) (· = gx)), (4, .pf (fun w => w.heap[gt]? = some (.cells #[.map (some gs)] 109 (0, 0))) (· = gt)), (5, .pf (fun w => w.heap[gc]? = some (.cells #[.func (.func 98) #[] #[.pointer (some ⟨gx, 0, none⟩), .pointer (some ⟨gt, 0, none⟩), .pointer (some ⟨gc, 0, none⟩)]] 112 (0, 0))) (· = gc)), (6, mapF gs S stKey stVal)], 7, []⟩) (fun k zz => True) trivial ⟨0, rfl, Le_sel (ts := [28, 27, 9, 0, 1, 4]) (ids := [0, 1, 2, 3, 4, 5, 6]) (nx := 7) (by kernel_rfl)⟩ ?_ ?_
  · intro k1 zz hn1 hp1 hi1 Q1 hq1 ho1
    refine WP_seq (WP_region (WPO_all tt_ok (by kernel_rfl) ?_))
    refine WP_seq (WP_cond (decide ((k1 : Int) < (of.length : Int))) (by kernel_rfl) (fun hc3 => ?_) (fun hc3 => ?_))
    rotate_left
    · refine WP_exit ?_
      show Q1 (.exit 0) _
      exact LA_exit hq1 () (loopR_end hi1 hc3) ⟨k1, hn1, hp1⟩ (Le_sel (ts := []) (ids := [0, 1, 2, 3, 4, 5, 6]) (nx := 7) (by kernel_rfl))
    have hc3' := of_decide_eq_true hc3
    have hk1 : k1 < of.length := by omega
    refine WP_skip ?_
    refine WP_seq (WP_block ?_)
    refine WP_seq (WP_region (WPO_all tt_ok (by kernel_rfl) ?_))
    refine WP_seq (WP_region (WPO_run tt_ok 1 (by kernel_rfl) ?_))
    refine CALLO 101 [.s (.ref 2)] (.s (.ref 7)) 3 1 (cloneI of) encI 0 7 (by kernel_rfl) (by kernel_rfl) (goes_of (by kernel_rfl)) (by kernel_rfl) (by kernel_rfl) (fun _ => rfl) ((fun nV w h => cloneI_calls (nV 2) of w (h.reads (id := 2) (kd := .ro) (e := 3) (by kernel_rfl)) (by first | assumption | omega))) ?_
    refine WPO_all tt_ok (by kernel_rfl) ?_
    refine WP_seq (WP_drawHM 8 [] [7] (by kernel_rfl) (by kernel_rfl) ?_)
    refine H_run tt_ok [0, 1] (f' := 6) (by kernel_rfl) (by kernel_rfl) (by kernel_rfl) ?_
    refine H_IX tt_ok 2 (k1 : Int) (cloneI of).length [] (by kernel_rfl) (fun hG => ⟨by omega, by omega⟩) (by kernel_rfl) (by kernel_rfl) ?_
    refine H_run tt_ok [3, 4] (f' := 3) (by kernel_rfl) (by kernel_rfl) (by kernel_rfl) ?_
    refine H_BIN 5 .shl 3 (.const (.int .i64 1)) (.tmp 37) (.s (.int .i64 1)) (.s (.int .i64 (so.length : Int))) (.s (.int .i64 (IntKind.i64.wrap (1 * 2 ^ (min (so.length : Int).toNat IntKind.i64.bits))))) [] (by kernel_rfl) (by kernel_rfl) (by kernel_rfl) (fun _ _ => BinOk_shl (by omega)) (by kernel_rfl) (by kernel_rfl) ?_
    refine H_run tt_ok [6] (f' := 1) (by kernel_rfl) (by kernel_rfl) (by kernel_rfl) ?_
    refine H_IX tt_ok 7 (k1 : Int) (cloneI of).length [] (by kernel_rfl) (fun hG => ⟨by omega, by omega⟩) (by kernel_rfl) (by kernel_rfl) ?_
    refine H_done (by kernel_rfl) ?_
    refine ⟨(by kernel_rfl), ?_⟩
    refine H_step 8 (by kernel_rfl) (by kernel_rfl) (fun hfz cx' hx1 hx2 => ?_)
    refine EST tt_ok 7 (k1 : Int) 1 0 3 3 (cloneI of) encI 0 (IntKind.i64.wrap (BitVec.ofInt IntKind.i64.bits ((cloneI of).getD k1 0) ||| BitVec.ofInt IntKind.i64.bits (IntKind.i64.wrap (1 * 2 ^ (min (so.length : Int).toNat IntKind.i64.bits)))).toNat) (.s (.int .i64 (IntKind.i64.wrap (BitVec.ofInt IntKind.i64.bits ((cloneI of).getD k1 0) ||| BitVec.ofInt IntKind.i64.bits (IntKind.i64.wrap (1 * 2 ^ (min (so.length : Int).toNat IntKind.i64.bits)))).toNat))) (by kernel_rfl) (by kernel_rfl) (by kernel_rfl) (by kernel_rfl) ⟨by omega, by omega⟩ (fun n => rfl) ?_
    refine WPO_end (by kernel_rfl) ⟨rfl, (hfz.fnds [0, 1, 2, 3, 4, 5, 6] (by kernel_rfl) ⟨by kernel_rfl, by kernel_rfl, by kernel_rfl, by kernel_rfl, by kernel_rfl, by kernel_rfl, by kernel_rfl, trivial⟩ (by kernel_rfl)), ?_⟩
    refine H_done (by kernel_rfl) ?_
    refine WP_seq (WP_toX (σ := Value) (fun sv5 => ⟨57, [(13, [], .s (.bool (F ((cut so 0 (so.length : Int)) ++ ([(k1 : Int)])) ((cloneI of).set k1 (IntKind.i64.wrap (BitVec.ofInt IntKind.i64.bits ((cloneI of).getD k1 0) ||| BitVec.ofInt IntKind.i64.bits (IntKind.i64.wrap (1 * 2 ^ (min (so.length : Int).toNat IntKind.i64.bits)))).toNat))).2)), (12, [], .s (.v sv5)), (28, [], .s (.int .i64 (k1 : Int))), (27, [], .s (.int .i64 (of.length : Int))), (9, [], .s (.int .i64 (so.length : Int))), (0, [], .s (.ref 1)), (1, [], .s (.ref 2)), (4, [], .s (.v (.pointer (some ⟨gc, 0, none⟩))))], [(11, slE sv5 1 (F ((cut so 0 (so.length : Int)) ++ ([(k1 : Int)])) ((cloneI of).set k1 (IntKind.i64.wrap (BitVec.ofInt IntKind.i64.bits ((cloneI of).getD k1 0) ||| BitVec.ofInt IntKind.i64.bits (IntKind.i64.wrap (1 * 2 ^ (min (so.length : Int).toNat IntKind.i64.bits)))).toNat))).1 encI 0), (7, .sl .own 3 1 ((cloneI of).set k1 (IntKind.i64.wrap (BitVec.ofInt IntKind.i64.bits ((cloneI of).getD k1 0) ||| BitVec.ofInt IntKind.i64.bits (IntKind.i64.wrap (1 * 2 ^ (min (so.length : Int).toNat IntKind.i64.bits)))).toNat)) encI 0), (0, .sl .ro 61 3 b.loads encLoad zLoad), (1, .sl .ro 3 1 so encI 0), (2, .sl .ro 3 1 of encI 0), (3, .pf (fun w => w.heap[gx]? = some (.cells #[sv, iv b.rule, iv b.most] 24 (0, 0))) (· = gx)), (4, .pf (fun w => w.heap[gt]? = some (.cells #[.map (some gs)] 109 (0, 0))) (· = gt)), (5, .pf (fun w => w.heap[gc]? = some (.cells #[.func (.func 98) #[] #[.pointer (some ⟨gx, 0, none⟩), .pointer (some ⟨gt, 0, none⟩), .pointer (some ⟨gc, 0, none⟩)]] 112 (0, 0))) (· = gc)), (6, mapF gs S stKey stVal)], 12, []⟩) ?_ ?_)
    · refine WP_drawH [] (by kernel_rfl) (by kernel_rfl) ?_
      refine H_LDG tt_ok 0 112 gc 0 (some 42) [.v (.func (.func 98) #[] #[.pointer (some ⟨gx, 0, none⟩), .pointer (some ⟨gt, 0, none⟩), .pointer (some ⟨gc, 0, none⟩)])] 112 (.s (.v (.func (.func 98) #[] #[.pointer (some ⟨gx, 0, none⟩), .pointer (some ⟨gt, 0, none⟩), .pointer (some ⟨gc, 0, none⟩)]))) (by kernel_rfl) (by kernel_rfl) (by kernel_rfl) (fun _ nV w h => (h.ents (5, .pf (fun w => w.heap[gc]? = some (.cells #[.func (.func 98) #[] #[.pointer (some ⟨gx, 0, none⟩), .pointer (some ⟨gt, 0, none⟩), .pointer (some ⟨gc, 0, none⟩)]] 112 (0, 0))) (· = gc)) (fnd_mem (by kernel_rfl))).1) (by kernel_rfl) (by kernel_rfl) (by kernel_rfl) ?_
      refine H_run tt_ok [1, 2, 3, 5, 8] (f' := 9) (by kernel_rfl) (by kernel_rfl) (by kernel_rfl) ?_
      refine H_two 4 6 (by kernel_rfl) (by kernel_rfl) (by kernel_rfl) (fun hfz cx' hx1 hx2 => ?_) (fun hfz cx' hx1 hx2 => ?_)
      · refine SLC tt_ok 1 so.length .ro 3 1 0 (so.length : Int) (some (so.length : Int)) .full (some 46) (by kernel_rfl) (by kernel_rfl) ⟨by omega, by omega, by omega⟩ (.inr ⟨rfl, rfl⟩) ?_
        refine WPO_end (by kernel_rfl) ⟨rfl, (hfz.fnds [7, 0, 1, 2, 3, 4, 5, 6] (by kernel_rfl) ⟨by kernel_rfl, by kernel_rfl, by kernel_rfl, by kernel_rfl, by kernel_rfl, by kernel_rfl, by kernel_rfl, by kernel_rfl, trivial⟩ (by kernel_rfl)), ?_⟩
        refine H_step 6 (by kernel_rfl) (by kernel_rfl) (fun hfz cx' hx1 hx2 => ?_)
        refine LIT tt_ok (by kernel_rfl) ?_
        refine LITSL 9 3 1 1 [.int .i64 (k1 : Int)] [(k1 : Int)] encI 0 (by kernel_rfl) rfl (fun _ => rfl) (fun n => rfl) ?_
        refine WPO_end (by kernel_rfl) ⟨rfl, (hfz.fnds [7, 0, 1, 2, 3, 4, 5, 6] (by kernel_rfl) ⟨by kernel_rfl, by kernel_rfl, by kernel_rfl, by kernel_rfl, by kernel_rfl, by kernel_rfl, by kernel_rfl, by kernel_rfl, trivial⟩ (by kernel_rfl)), ?_⟩
        refine H_step 7 (by kernel_rfl) (by kernel_rfl) (fun hfz cx' hx1 hx2 => ?_)
        refine APP tt_ok (.s (.ref 8)) (.s (.ref 9)) 33 3 (some 49) 1 (cut so 0 (so.length : Int)) ([(k1 : Int)]) encI 0 (by kernel_rfl) (by kernel_rfl) (by kernel_rfl) (by kernel_rfl) (.inr (.inr ⟨8, rfl, (by kernel_rfl)⟩)) (.inr ⟨9, .own, rfl, (by kernel_rfl), (by simp only [List.length_cons, List.length_nil]; omega)⟩) (by simp) (fun y => rfl) (fun y => List.all_eq_true.1 rfl) (fun i hi => (by have hby : (tyL tt 3).map (·.bytes) = some 8 := (by kernel_rfl); rw [hi] at hby; simp only [Option.map_some, Option.some.injEq] at hby; rw [hby]; simp only [List.length_append, List.length_cons, List.length_nil]; omega)) ?_
        refine WPO_end (by kernel_rfl) ⟨rfl, (hfz.fnds [7, 0, 1, 2, 3, 4, 5, 6] (by kernel_rfl) ⟨by kernel_rfl, by kernel_rfl, by kernel_rfl, by kernel_rfl, by kernel_rfl, by kernel_rfl, by kernel_rfl, by kernel_rfl, trivial⟩ (by kernel_rfl)), ?_⟩
        refine H_step 9 (by kernel_rfl) (by kernel_rfl) (fun hfz cx' hx1 hx2 => ?_)
        refine CALLTK 98 [.s (.ref 10), .s (.ref 7), .s (.v (.pointer (some ⟨gx, 0, none⟩))), .s (.v (.pointer (some ⟨gt, 0, none⟩))), .s (.v (.pointer (some ⟨gc, 0, none⟩)))] (fun sv7 => .t [(false, [.v sv7]), (false, [.bool (F ((cut so 0 (so.length : Int)) ++ ([(k1 : Int)])) ((cloneI of).set k1 (IntKind.i64.wrap (BitVec.ofInt IntKind.i64.bits ((cloneI of).getD k1 0) ||| BitVec.ofInt IntKind.i64.bits (IntKind.i64.wrap (1 * 2 ^ (min (so.length : Int).toNat IntKind.i64.bits)))).toNat))).2])]) 10 3 1 ((cut so 0 (so.length : Int)) ++ ([(k1 : Int)])) encI 0 1 (F ((cut so 0 (so.length : Int)) ++ ([(k1 : Int)])) ((cloneI of).set k1 (IntKind.i64.wrap (BitVec.ofInt IntKind.i64.bits ((cloneI of).getD k1 0) ||| BitVec.ofInt IntKind.i64.bits (IntKind.i64.wrap (1 * 2 ^ (min (so.length : Int).toNat IntKind.i64.bits)))).toNat))).1 encI 0 (by kernel_rfl) (by kernel_rfl) (goes_of (by kernel_rfl)) (fun _ => (by kernel_rfl)) (fun _ => (by kernel_rfl)) (fun _ _ _ => rfl) (fun nV w h => (by have e0 : nV 0 = sv := (h.ini 0 (Nat.lt_of_lt_of_le (by show 0 < 3; decide) hx2.2.2)).trans (hx2.2.1 0 (by show 0 < 3; decide)); exact hF (nV 10) (nV 7) _ _ w (hR1 _ _ _ (by omega)) (by rw [← e0]; exact h.reads (id := 0) (kd := .ro) (e := 61) (by kernel_rfl)) (h.reads (id := 10) (kd := .own) (e := 3) (by kernel_rfl)) (h.reads (id := 7) (kd := .own) (e := 3) (by kernel_rfl)) (h.ents (3, .pf (fun w => w.heap[gx]? = some (.cells #[sv, iv b.rule, iv b.most] 24 (0, 0))) (· = gx)) (fnd_mem (by kernel_rfl))).1 (h.ents (4, .pf (fun w => w.heap[gt]? = some (.cells #[.map (some gs)] 109 (0, 0))) (· = gt)) (fnd_mem (by kernel_rfl))).1 (h.ents (5, .pf (fun w => w.heap[gc]? = some (.cells #[.func (.func 98) #[] #[.pointer (some ⟨gx, 0, none⟩), .pointer (some ⟨gt, 0, none⟩), .pointer (some ⟨gc, 0, none⟩)]] 112 (0, 0))) (· = gc)) (fnd_mem (by kernel_rfl))).1 (h.ents (6, mapF gs S stKey stVal) (fnd_mem (by kernel_rfl))).1)) (fun sv7 => ?_)
        refine WPO_end (by kernel_rfl) ⟨rfl, (hfz.fnds [7, 0, 1, 2, 3, 4, 5, 6] (by kernel_rfl) ⟨by kernel_rfl, by kernel_rfl, by kernel_rfl, by kernel_rfl, by kernel_rfl, by kernel_rfl, by kernel_rfl, by kernel_rfl, trivial⟩ (by kernel_rfl)), ?_⟩
        refine H_run tt_ok [10, 11, 12, 13, 14] (f' := 0) (by kernel_rfl) (by kernel_rfl) (by kernel_rfl) ?_
        refine H_done (by kernel_rfl) ?_
        exact ⟨sv7, Le_sel (ts := [13, 12, 28, 27, 9, 0, 1, 4]) (ids := [11, 7, 0, 1, 2, 3, 4, 5, 6]) (nx := 12) (by kernel_rfl)⟩
      · refine LIT tt_ok (by kernel_rfl) ?_
        refine LITSL 8 3 1 1 [.int .i64 (k1 : Int)] [(k1 : Int)] encI 0 (by kernel_rfl) rfl (fun _ => rfl) (fun n => rfl) ?_
        refine WPO_end (by kernel_rfl) ⟨rfl, (hfz.fnds [7, 0, 1, 2, 3, 4, 5, 6] (by kernel_rfl) ⟨by kernel_rfl, by kernel_rfl, by kernel_rfl, by kernel_rfl, by kernel_rfl, by kernel_rfl, by kernel_rfl, by kernel_rfl, trivial⟩ (by kernel_rfl)), ?_⟩
        refine H_step 4 (by kernel_rfl) (by kernel_rfl) (fun hfz cx' hx1 hx2 => ?_)
        refine SLC tt_ok 1 so.length .ro 3 1 0 (so.length : Int) (some (so.length : Int)) .full (some 46) (by kernel_rfl) (by kernel_rfl) ⟨by omega, by omega, by omega⟩ (.inr ⟨rfl, rfl⟩) ?_
        refine WPO_end (by kernel_rfl) ⟨rfl, (hfz.fnds [7, 0, 1, 2, 3, 4, 5, 6] (by kernel_rfl) ⟨by kernel_rfl, by kernel_rfl, by kernel_rfl, by kernel_rfl, by kernel_rfl, by kernel_rfl, by kernel_rfl, by kernel_rfl, trivial⟩ (by kernel_rfl)), ?_⟩
        refine H_step 7 (by kernel_rfl) (by kernel_rfl) (fun hfz cx' hx1 hx2 => ?_)
        refine APP tt_ok (.s (.ref 9)) (.s (.ref 8)) 33 3 (some 49) 1 (cut so 0 (so.length : Int)) ([(k1 : Int)]) encI 0 (by kernel_rfl) (by kernel_rfl) (by kernel_rfl) (by kernel_rfl) (.inr (.inr ⟨9, rfl, (by kernel_rfl)⟩)) (.inr ⟨8, .own, rfl, (by kernel_rfl), (by simp only [List.length_cons, List.length_nil]; omega)⟩) (by simp) (fun y => rfl) (fun y => List.all_eq_true.1 rfl) (fun i hi => (by have hby : (tyL tt 3).map (·.bytes) = some 8 := (by kernel_rfl); rw [hi] at hby; simp only [Option.map_some, Option.some.injEq] at hby; rw [hby]; simp only [List.length_append, List.length_cons, List.length_nil]; omega)) ?_
        refine WPO_end (by kernel_rfl) ⟨rfl, (hfz.fnds [7, 0, 1, 2, 3, 4, 5, 6] (by kernel_rfl) ⟨by kernel_rfl, by kernel_rfl, by kernel_rfl, by kernel_rfl, by kernel_rfl, by kernel_rfl, by kernel_rfl, by kernel_rfl, trivial⟩ (by kernel_rfl)), ?_⟩
        refine H_step 9 (by kernel_rfl) (by kernel_rfl) (fun hfz cx' hx1 hx2 => ?_)
        refine CALLTK 98 [.s (.ref 10), .s (.ref 7), .s (.v (.pointer (some ⟨gx, 0, none⟩))), .s (.v (.pointer (some ⟨gt, 0, none⟩))), .s (.v (.pointer (some ⟨gc, 0, none⟩)))] (fun sv8 => .t [(false, [.v sv8]), (false, [.bool (F ((cut so 0 (so.length : Int)) ++ ([(k1 : Int)])) ((cloneI of).set k1 (IntKind.i64.wrap (BitVec.ofInt IntKind.i64.bits ((cloneI of).getD k1 0) ||| BitVec.ofInt IntKind.i64.bits (IntKind.i64.wrap (1 * 2 ^ (min (so.length : Int).toNat IntKind.i64.bits)))).toNat))).2])]) 10 3 1 ((cut so 0 (so.length : Int)) ++ ([(k1 : Int)])) encI 0 1 (F ((cut so 0 (so.length : Int)) ++ ([(k1 : Int)])) ((cloneI of).set k1 (IntKind.i64.wrap (BitVec.ofInt IntKind.i64.bits ((cloneI of).getD k1 0) ||| BitVec.ofInt IntKind.i64.bits (IntKind.i64.wrap (1 * 2 ^ (min (so.length : Int).toNat IntKind.i64.bits)))).toNat))).1 encI 0 (by kernel_rfl) (by kernel_rfl) (goes_of (by kernel_rfl)) (fun _ => (by kernel_rfl)) (fun _ => (by kernel_rfl)) (fun _ _ _ => rfl) (fun nV w h => (by have e0 : nV 0 = sv := (h.ini 0 (Nat.lt_of_lt_of_le (by show 0 < 3; decide) hx2.2.2)).trans (hx2.2.1 0 (by show 0 < 3; decide)); exact hF (nV 10) (nV 7) _ _ w (hR1 _ _ _ (by omega)) (by rw [← e0]; exact h.reads (id := 0) (kd := .ro) (e := 61) (by kernel_rfl)) (h.reads (id := 10) (kd := .own) (e := 3) (by kernel_rfl)) (h.reads (id := 7) (kd := .own) (e := 3) (by kernel_rfl)) (h.ents (3, .pf (fun w => w.heap[gx]? = some (.cells #[sv, iv b.rule, iv b.most] 24 (0, 0))) (· = gx)) (fnd_mem (by kernel_rfl))).1 (h.ents (4, .pf (fun w => w.heap[gt]? = some (.cells #[.map (some gs)] 109 (0, 0))) (· = gt)) (fnd_mem (by kernel_rfl))).1 (h.ents (5, .pf (fun w => w.heap[gc]? = some (.cells #[.func (.func 98) #[] #[.pointer (some ⟨gx, 0, none⟩), .pointer (some ⟨gt, 0, none⟩), .pointer (some ⟨gc, 0, none⟩)]] 112 (0, 0))) (· = gc)) (fnd_mem (by kernel_rfl))).1 (h.ents (6, mapF gs S stKey stVal) (fnd_mem (by kernel_rfl))).1)) (fun sv8 => ?_)
        refine WPO_end (by kernel_rfl) ⟨rfl, (hfz.fnds [7, 0, 1, 2, 3, 4, 5, 6] (by kernel_rfl) ⟨by kernel_rfl, by kernel_rfl, by kernel_rfl, by kernel_rfl, by kernel_rfl, by kernel_rfl, by kernel_rfl, by kernel_rfl, trivial⟩ (by kernel_rfl)), ?_⟩
        refine H_run tt_ok [10, 11, 12, 13, 14] (f' := 0) (by kernel_rfl) (by kernel_rfl) (by kernel_rfl) ?_
        refine H_done (by kernel_rfl) ?_
        exact ⟨sv8, Le_sel (ts := [13, 12, 28, 27, 9, 0, 1, 4]) (ids := [11, 7, 0, 1, 2, 3, 4, 5, 6]) (nx := 12) (by kernel_rfl)⟩
    intro sv5
    refine WP_seq (WP_region (WPO_all tt_ok (by kernel_rfl) ?_))
    refine WP_cond ((F ((cut so 0 (so.length : Int)) ++ ([(k1 : Int)])) ((cloneI of).set k1 (IntKind.i64.wrap (BitVec.ofInt IntKind.i64.bits ((cloneI of).getD k1 0) ||| BitVec.ofInt IntKind.i64.bits (IntKind.i64.wrap (1 * 2 ^ (min (so.length : Int).toNat IntKind.i64.bits)))).toNat))).2) (by kernel_rfl) (fun hc5 => ?_) (fun hc5 => ?_)
    · have hc5' := hc5; try simp only [Bool.and_eq_true, Bool.or_eq_true, Bool.and_eq_false_iff, Bool.or_eq_false_iff, Bool.not_eq_true', Bool.not_eq_false', decide_eq_true_eq, decide_eq_false_iff_not, beq_iff_eq, beq_eq_false_iff_ne, bne_iff_ne, bne_eq_false_iff_eq, ne_eq] at hc5'
      refine WP_seq (WP_region (WPO_all tt_ok (by kernel_rfl) ?_))
      refine WP_ret ?_
      show Q1 .ret _
      refine LA_ret hq1 ?_
      have he6 := loopR_ret (r := ((F ((cut so 0 (so.length : Int)) ++ ([(k1 : Int)])) ((cloneI of).set k1 (IntKind.i64.wrap (BitVec.ofInt IntKind.i64.bits ((cloneI of).getD k1 0) ||| BitVec.ofInt IntKind.i64.bits (IntKind.i64.wrap (1 * 2 ^ (min (so.length : Int).toNat IntKind.i64.bits)))).toNat))).1, true)) hi1 hk1 hc3 (by unfold crossS_b1; simp only [hc5, cond_true, cond_false])
      exact ⟨.t [(false, [.v sv5]), (false, [.bool true])], by kernel_rfl, fun nV w' h => ⟨sv5, by rw [show crossS b S F so of = ((F ((cut so 0 (so.length : Int)) ++ ([(k1 : Int)])) ((cloneI of).set k1 (IntKind.i64.wrap (BitVec.ofInt IntKind.i64.bits ((cloneI of).getD k1 0) ||| BitVec.ofInt IntKind.i64.bits (IntKind.i64.wrap (1 * 2 ^ (min (so.length : Int).toNat IntKind.i64.bits)))).toNat))).1, true) from by unfold crossS; simp only [hc2, he6, cond_true, cond_false]]; rfl, h.bel, by rw [show crossS b S F so of = ((F ((cut so 0 (so.length : Int)) ++ ([(k1 : Int)])) ((cloneI of).set k1 (IntKind.i64.wrap (BitVec.ofInt IntKind.i64.bits ((cloneI of).getD k1 0) ||| BitVec.ofInt IntKind.i64.bits (IntKind.i64.wrap (1 * 2 ^ (min (so.length : Int).toNat IntKind.i64.bits)))).toNat))).1, true) from by unfold crossS; simp only [hc2, he6, cond_true, cond_false]]; exact (slE_lt (id := 11) (v := sv5) (sz := 1) (li := (F ((cut so 0 (so.length : Int)) ++ ([(k1 : Int)])) ((cloneI of).set k1 (IntKind.i64.wrap (BitVec.ofInt IntKind.i64.bits ((cloneI of).getD k1 0) ||| BitVec.ofInt IntKind.i64.bits (IntKind.i64.wrap (1 * 2 ^ (min (so.length : Int).toNat IntKind.i64.bits)))).toNat))).1) (enc := encI) (z := 0) h (by kernel_rfl)).1, fun g hg => .inr ((slE_lt (id := 11) (v := sv5) (sz := 1) (li := (F ((cut so 0 (so.length : Int)) ++ ([(k1 : Int)])) ((cloneI of).set k1 (IntKind.i64.wrap (BitVec.ofInt IntKind.i64.bits ((cloneI of).getD k1 0) ||| BitVec.ofInt IntKind.i64.bits (IntKind.i64.wrap (1 * 2 ^ (min (so.length : Int).toNat IntKind.i64.bits)))).toNat))).1) (enc := encI) (z := 0) h (by kernel_rfl)).2 g hg)⟩⟩
    have hc5' := hc5; try simp only [Bool.and_eq_true, Bool.or_eq_true, Bool.and_eq_false_iff, Bool.or_eq_false_iff, Bool.not_eq_true', Bool.not_eq_false', decide_eq_true_eq, decide_eq_false_iff_not, beq_iff_eq, beq_eq_false_iff_ne, bne_iff_ne, bne_eq_false_iff_eq, ne_eq] at hc5'
    refine WP_skip ?_
    refine WP_region (WPO_all tt_ok (by kernel_rfl) ?_)
    show Q1 .normal _
    exact LA_go hq1 (ci := IntKind.i64.wrap ((k1 : Int) + 1)) () hk1 (by show _ = ((k1 + 1 : Nat) : Int); rw [wrapI (by omega) (by omega)]; omega) (loopR_go hi1 hk1 hc3 (by unfold crossS_b1; simp only [hc5, cond_true, cond_false])) trivial (Le_sel (ts := [28, 27, 9, 0, 1, 4]) (ids := [0, 1, 2, 3, 4, 5, 6]) (nx := 7) (by kernel_rfl))
  intro zz hR1 hP1 s' hl
  refine WP_le hl ?_
  clear hl s'
  refine WP_seq (WP_region (WPO_all tt_ok (by kernel_rfl) ?_))
  refine WP_ret ?_
  exact ⟨.t [(false, [.v (.slice none 0 0)]), (false, [.bool false])], by kernel_rfl, fun nV w' h => ⟨.slice none 0 0, by rw [show crossS b S F so of = ([], false) from by unfold crossS; simp only [hc2, hR1, cond_true, cond_false]]; rfl, h.bel, by rw [show crossS b S F so of = ([], false) from by unfold crossS; simp only [hc2, hR1, cond_true, cond_false]]; exact reads_nil, fun g hg => by cases hg⟩⟩
end Go.Proofs.YthfnedbpmdkdjaaDoor.D
namespace Go.Proofs.YthfnedbpmdkdjaaDoor.D
open Go Go.RowKit Go.Proofs.YthfnedbpmdkdjaaDoor.Eng Go.Proofs.YthfnedbpmdkdjaaDoor.Cm
set_option linter.unusedVariables false
set_option linter.unusedSimpArgs false
set_option linter.unusedSectionVars false
def crossD (b : DBook) (S : List (Int × Bool)) : Nat → List Int → List Int → List Int × Bool
  | 0 => crossS b S fun _ _ => ([], false)
  | r + 1 => crossS b S (crossD b S r)
theorem cross_ok {b : DBook} (S : List (Int × Bool)) (hb5 : b.loads.length ≤ 5) (sv : Value) (gx gt gs gc : Nat) : ∀ r : Nat, CrossC b S sv gx gt gs gc (fun n m => n + r = b.loads.length ∧ m ≤ 5) (crossD b S r) := by
  intro r
  induction r with
  | zero =>
    intro tv uv so of w hR rb rs ro hx hs hc hms
    exact crossS_calls b S (fun _ _ => ([], false)) (fun _ _ => False) so of sv tv uv gx gt gs gc w rb rs ro hx hs hc hms hb5 (by omega) hR.2 (fun _ _ _ _ _ h => h.elim) (fun h => by omega)
  | succ r ih =>
    intro tv uv so of w hR rb rs ro hx hs hc hms
    exact crossS_calls b S (crossD b S r) (fun n m => n + r = b.loads.length ∧ m ≤ 5) so of sv tv uv gx gt gs gc w rb rs ro hx hs hc hms hb5 (by omega) hR.2 ih (fun h => ⟨by omega, hR.2⟩)
theorem cross_top {b : DBook} (S : List (Int × Bool)) (hb5 : b.loads.length ≤ 5) (a0 uv x t c cl : Value) (gx gt gs gc : Nat) (of : List Int) (w : World) (hof : of.length ≤ 5) (rb : Reads w a0 3 b.loads encLoad zLoad) (ro : Reads w uv 1 of encI 0) (hms : w.heap[gs]? = some (.map (ents S stKey stVal) S.length)) (hx : x = .pointer (some ⟨gx, 0, none⟩)) (ht : t = .pointer (some ⟨gt, 0, none⟩)) (hc : c = .pointer (some ⟨gc, 0, none⟩))
    (hxh : w.heap[gx]? = some (.cells #[a0, iv b.rule, iv b.most] 24 (0, 0))) (hth : w.heap[gt]? = some (.cells #[.map (some gs)] 109 (0, 0))) (hcl : cl = .func (.func 98) #[] #[ptrAt x 0, ptrAt t 0, ptrAt c 0]) (hch : w.heap[gc]? = some (.cells #[cl] 112 (0, 0))) :
    Calls Tryd.prog 98 #[.slice none 0 0, uv, ptrAt x 0, ptrAt t 0, ptrAt c 0] w fun e w' => ∃ v, e = .returned (.tuple #[v, .bool (crossD b S b.loads.length [] of).2]) ∧ Below w.heap.size w w' ∧ Reads w' v 1 (crossD b S b.loads.length [] of).1 encI 0 ∧ (∀ g, vblk v = some g → w.heap.size ≤ g ∧ g < w'.heap.size) := by
  subst hx ht hc
  simp only [ptrAt, Nat.add_zero] at *
  subst hcl
  have h5 := cross_ok S hb5 a0 gx gt gs gc b.loads.length (.slice none 0 0) uv [] of w ⟨by simp, hof⟩ rb reads_nil ro hxh hth hch hms
  exact h5.mono fun e w' ⟨v, h1, h2, h3, h4⟩ => ⟨v, h1, h2, h3, fun g hg => (h4 g hg).resolve_left (fun h => by cases h)⟩
def fewestA_c1 (b : DBook) (k1 : Nat) : (List (Int × Bool)) → Bool := fun v1_1 => decide ((k1 : Int) < (IntKind.i64.wrap ((allD b) + 1)))
def fewestA_b1 (b : DBook) (k1 : Nat) : (List (Int × Bool)) → Bd (List (Int × Bool)) ((List Int) × Int) := fun v1_1 => .go (v1_1 ++ [(((k1 : Int), (togetherD b (k1 : Int))) : Int × Bool)])
def fewestA_c2 (b : DBook) (u1_0 : List (Int × Bool)) (k2 : Nat) : Unit → Bool := fun _ => decide ((k2 : Int) < (b.loads.length : Int))
def fewestA_b2 (b : DBook) (u1_0 : List (Int × Bool)) (k2 : Nat) : Unit → Bd Unit ((List Int) × Int) := fun _ => (bif (crossD b u1_0 b.loads.length [] (List.replicate (IntKind.i64.wrap ((k2 : Int) + 1)).toNat 0)).2 then .ret ((crossD b u1_0 b.loads.length [] (List.replicate (IntKind.i64.wrap ((k2 : Int) + 1)).toNat 0)).1, 0) else .go ())
def fewestA (b : DBook) : (List Int) × Int :=
  (bif (checkD b) != 0 then ([], (checkD b)) else (match loopR (fewestA_c1 b) (fewestA_b1 b) (2 ^ b.loads.length) 0 ([] : List (Int × Bool)) with | .brk u1_0 => (match loopR (fewestA_c2 b u1_0) (fewestA_b2 b u1_0) b.loads.length 0 () with | .brk () => ([], 4) | .ret r => r) | .ret r => r))
theorem fewestA_calls (g0 : Value) (b : DBook) (w : World) (r0 : Reads w g0 3 b.loads encLoad zLoad) (hnb : NobodyAt w) (hla : LanesAt w) : Calls Tryd.prog 46 #[.agg #[g0, iv b.rule, iv b.most]] w fun e w' => ∃ v0, e = .returned (.tuple #[v0, iv (fewestA b).2]) ∧ Below w.heap.size w w' ∧ Reads w' v0 1 (fewestA b).1 encI 0 ∧ (∀ g, vblk v0 = some g → w.heap.size ≤ g ∧ g < w'.heap.size) := by
  refine calls_of_WP (cx := cx0 w (vn [g0]) 1) (n := vn [g0]) (vs := [.g [.ref 0, .int .i64 b.rule, .int .i64 b.most]]) (hp := [(0, .sl .ro 61 3 b.loads encLoad zLoad), (1, .pf NobodyAt (· = 1)), (2, .pf LanesAt (· = 0))]) (nx := 3) tt_ok Tryd.func46 rfl rfl rfl (by kernel_rfl) (HSat_args (vn_one (by simp [r0.one])) (by decide) ⟨⟨⟨fun _ => rfl, by decide, r0⟩, (Nat.le_of_ble_eq_true rfl)⟩, ⟨⟨hnb, fun w1 w2 h1 hw => (hw 1 rfl).trans h1, fun g hg => by cases hg; exact (Array.getElem?_eq_some_iff.1 hnb).1⟩, (Nat.le_of_ble_eq_true rfl)⟩, ⟨⟨hla, fun w1 w2 h1 hw => (hw 0 rfl).trans h1, fun g hg => by cases hg; exact (Array.getElem?_eq_some_iff.1 hla).1⟩, (Nat.le_of_ble_eq_true rfl)⟩, trivial⟩) (vsOk (by kernel_rfl)) ?_
  have hl0 := Reads.len r0
  refine WP_seq (WP_region (WPO_all tt_ok (by kernel_rfl) ?_))
  refine WP_seq (WP_seq (WP_region (WPO_run tt_ok 1 (by kernel_rfl) ?_)))
  refine CALL 66 [.g [.ref 0, .int .i64 b.rule, .int .i64 b.most]] (.s (.int .i64 (checkD b))) [] (by kernel_rfl) (goes_of (by kernel_rfl)) (by kernel_rfl) (by kernel_rfl) (fun _ nV w h => checkD_calls (nV 0) b w (h.reads (id := 0) (kd := .ro) (e := 61) (by kernel_rfl)) ) ?_
  refine WPO_all tt_ok (by kernel_rfl) ?_
  refine WP_seq (WP_region (WPO_all tt_ok (by kernel_rfl) ?_))
  refine WP_cond ((checkD b) != 0) (by kernel_rfl) (fun hc2 => ?_) (fun hc2 => ?_)
  · have hc2' := hc2; try simp only [Bool.and_eq_true, Bool.or_eq_true, Bool.and_eq_false_iff, Bool.or_eq_false_iff, Bool.not_eq_true', Bool.not_eq_false', decide_eq_true_eq, decide_eq_false_iff_not, beq_iff_eq, beq_eq_false_iff_ne, bne_iff_ne, bne_eq_false_iff_eq, ne_eq] at hc2'
    refine WP_seq (WP_region (WPO_all tt_ok (by kernel_rfl) ?_))
    refine WP_ret ?_
    exact ⟨.t [(false, [.v (.slice none 0 0)]), (false, [.int .i64 (checkD b)])], by kernel_rfl, fun nV w' h => ⟨.slice none 0 0, by rw [show fewestA b = ([], (checkD b)) from by unfold fewestA; simp only [hc2, cond_true, cond_false]]; rfl, h.bel, by rw [show fewestA b = ([], (checkD b)) from by unfold fewestA; simp only [hc2, cond_true, cond_false]]; exact reads_nil, fun g hg => by cases hg⟩⟩
  have hc2' := hc2; try simp only [Bool.and_eq_true, Bool.or_eq_true, Bool.and_eq_false_iff, Bool.or_eq_false_iff, Bool.not_eq_true', Bool.not_eq_false', decide_eq_true_eq, decide_eq_false_iff_not, beq_iff_eq, beq_eq_false_iff_ne, bne_iff_ne, bne_eq_false_iff_eq, ne_eq] at hc2'
  refine WP_skip ?_
  have hv : ValidD b := checkD_valid.1 (bne_eq_false_iff_eq.1 (by assumption))
  have hb5 := hv.n.2
  have hpw := all_wrap hb5
  have hpl := pow_le5 hb5
  refine WP_seq (WP_region (WPO_run tt_ok 1 (by kernel_rfl) ?_))
  refine CALLMAP 90 [.g [.ref 0, .int .i64 b.rule, .int .i64 b.most]] (plL b) plKey plVal (fun gM1 => .g [.ref 0, .int .i64 b.rule, .int .i64 b.most, .v (.map (some gM1))]) (by kernel_rfl) (goes_of (by kernel_rfl)) (fun _ => (by kernel_rfl)) (fun _ => (by kernel_rfl)) (fun _ n n' h => by simp only [AV.c, cellsV, part1, AC.c, List.map_cons, List.map_nil, h 0 (by show 0 < 4; decide)]) (fun nV w h => opened_plL (nV 0) b w (h.reads (id := 0) (kd := .ro) (e := 61) (by kernel_rfl)) (h.ents (1, .pf NobodyAt (· = 1)) (fnd_mem (by kernel_rfl))).1 (by first | assumption | omega)) (fun gM1 => ?_)
  refine WPO_all tt_ok (by kernel_rfl) ?_
  refine WP_seq (WP_region (MKMg (κ := (Int × Bool)) stKey stVal (some 19) (by kernel_rfl) (fun _ => (by kernel_rfl)) (fun gM2 => ?_)))
  refine WPO_all tt_ok (by kernel_rfl) ?_
  refine WP_seq (WP_seq (WP_region (WPO_run tt_ok 1 (by kernel_rfl) ?_)))
  refine CALL 96 [.g [.ref 0, .int .i64 b.rule, .int .i64 b.most, .v (.map (some gM1))]] (.s (.int .i64 (allD b))) [] (by kernel_rfl) (goes_of (by kernel_rfl)) (by kernel_rfl) (by kernel_rfl) (fun _ nV w h => allD_calls (nV 0) gM1 b w (h.reads (id := 0) (kd := .ro) (e := 61) (by kernel_rfl)) (h.ents (4, mapE gM1 (plL b) plKey plVal) (fnd_mem (by kernel_rfl))).1 (by first | assumption | omega)) ?_
  refine WPO_all tt_ok (by kernel_rfl) ?_
  refine WP_loopA (ρ := (List Int) × Int) (fewestA_c1 b) (fewestA_b1 b) (2 ^ b.loads.length) ([] : List (Int × Bool)) (fun k : Nat => (k : Int)) (fun (ci : Int) (zz : (List (Int × Bool))) => ⟨55, [(23, [], .s (.int .i64 ci)), (22, [], .s (.int .i64 (IntKind.i64.wrap ((allD b) + 1)))), (6, [], .s (.p 7 0)), (5, [], .s (.p 5 0)), (1, [], .s (.p 3 0))], [(7, .box 109 [.v (.map (some gM2))]), (6, mapE gM2 zz stKey stVal), (5, .box 94 [.ref 0, .int .i64 b.rule, .int .i64 b.most, .v (.map (some gM1))]), (4, mapE gM1 (plL b) plKey plVal), (3, .box 24 [.ref 0, .int .i64 b.rule, .int .i64 b.most]), (0, .sl .ro 61 3 b.loads encLoad zLoad), (1, .pf NobodyAt (· = 1)), (2, .pf LanesAt (· = 0))], 8, []⟩) (fun zz : (List (Int × Bool)) => ⟨55, [(6, [], .s (.p 7 0)), (1, [], .s (.p 3 0))], [(7, .box 109 [.v (.map (some gM2))]), (6, mapE gM2 zz stKey stVal), (5, .box 94 [.ref 0, .int .i64 b.rule, .int .i64 b.most, .v (.map (some gM1))]), (4, mapE gM1 (plL b) plKey plVal), (3, .box 24 [.ref 0, .int .i64 b.rule, .int .i64 b.most]), (0, .sl .ro 61 3 b.loads encLoad zLoad), (1, .pf NobodyAt (· = 1)), (2, .pf LanesAt (· = 0))], 8, []⟩) (fun (k1 : Nat) (zz : (List (Int × Bool))) => ∀ x ∈ zz, x.1 < (k1 : Int)) (fun x hx => by cases hx) ⟨0, rfl, Le_sel (ts := [23, 22, 6, 5, 1]) (ids := [7, 6, 5, 4, 3, 0, 1, 2]) (nx := 8) (by kernel_rfl)⟩ ?_ ?_
  · intro k1 v1_1 hn1 hp1 hi1 Q1 hq1 ho1
    replace hp1 : ∀ x ∈ v1_1, x.1 < (k1 : Int) := hp1
    refine WP_seq (WP_region (WPO_all tt_ok (by kernel_rfl) ?_))
    refine WP_seq (WP_cond (decide ((k1 : Int) < (IntKind.i64.wrap ((allD b) + 1)))) (by kernel_rfl) (fun hc3 => ?_) (fun hc3 => ?_))
    rotate_left
    · refine WP_exit ?_
      show Q1 (.exit 0) _
      exact LA_exit hq1 v1_1 (loopR_end hi1 hc3) ⟨k1, hn1, hp1⟩ (Le_sel (ts := [6, 1]) (ids := [7, 6, 5, 4, 3, 0, 1, 2]) (nx := 8) (by kernel_rfl))
    have hc3' := of_decide_eq_true hc3
    have hk1 : k1 < 2 ^ b.loads.length := by rw [hpw] at hc3'; omega
    refine WP_skip ?_
    refine WP_seq (WP_block ?_)
    refine WP_seq (WP_region (WPO_all tt_ok (by kernel_rfl) ?_))
    refine WP_drawH [6] (by kernel_rfl) (by kernel_rfl) ?_
    refine H_run tt_ok [0, 1, 2, 3] (f' := 2) (by kernel_rfl) (by kernel_rfl) (by kernel_rfl) ?_
    refine H_step 4 (by kernel_rfl) (by kernel_rfl) (fun hfz cx' hx1 hx2 => ?_)
    refine CALL 97 [.g [.ref 0, .int .i64 b.rule, .int .i64 b.most, .v (.map (some gM1))], .s (.int .i64 (k1 : Int))] (.s (.bool (togetherD b (k1 : Int)))) [] (by kernel_rfl) (goes_of (by kernel_rfl)) (by kernel_rfl) (by kernel_rfl) (fun _ nV w h => togetherD_calls (nV 0) gM1 b (k1 : Int) w (h.reads (id := 0) (kd := .ro) (e := 61) (by kernel_rfl)) (h.ents (4, mapE gM1 (plL b) plKey plVal) (fnd_mem (by kernel_rfl))).1 (h.ents (2, .pf LanesAt (· = 0)) (fnd_mem (by kernel_rfl))).1 (by first | assumption | omega) (by first | assumption | omega)) ?_
    refine WPO_end (by kernel_rfl) ⟨rfl, (hfz.fnds [7, 5, 4, 3, 0, 1, 2] (by kernel_rfl) ⟨by kernel_rfl, by kernel_rfl, by kernel_rfl, by kernel_rfl, by kernel_rfl, by kernel_rfl, by kernel_rfl, trivial⟩ (by kernel_rfl)), ?_⟩
    refine H_step 5 (by kernel_rfl) (by kernel_rfl) (fun hfz cx' hx1 hx2 => ?_)
    refine MUPg tt_ok v1_1 stKey stVal (((k1 : Int), (togetherD b (k1 : Int))) : Int × Bool) 6 gM2 3 (.s (.int .i64 (k1 : Int))) (.s (.bool (togetherD b (k1 : Int)))) (by kernel_rfl) (by kernel_rfl) (fun _ => ⟨rfl, rfl⟩) (fun w => check_int (by kernel_rfl) _ w false) (fun w => find_int_none (by kernel_rfl) _ stK stKey stVal (fun _ => rfl) w _ (fun x hx h => by have h0 := hp1 x hx; simp only [stK] at h; omega)) ?_
    refine WPO_end (by kernel_rfl) ⟨rfl, (hfz.fnds [7, 5, 4, 3, 0, 1, 2] (by kernel_rfl) ⟨by kernel_rfl, by kernel_rfl, by kernel_rfl, by kernel_rfl, by kernel_rfl, by kernel_rfl, by kernel_rfl, trivial⟩ (by kernel_rfl)), ?_⟩
    refine H_done (by kernel_rfl) ?_
    refine WP_region (WPO_all tt_ok (by kernel_rfl) ?_)
    show Q1 .normal _
    exact LA_go hq1 (ci := IntKind.i64.wrap ((k1 : Int) + 1)) (v1_1 ++ [(((k1 : Int), (togetherD b (k1 : Int))) : Int × Bool)]) hk1 (by show _ = ((k1 + 1 : Nat) : Int); rw [wrapI (by omega) (by omega)]; omega) (loopR_go hi1 hk1 hc3 (rfl)) (fun x hx => (List.mem_append.1 hx).elim (fun h => by have := hp1 x h; omega) (fun h => by rw [List.mem_singleton.1 h]; show (k1 : Int) < ((k1 + 1 : Nat) : Int); omega)) (Le_sel (ts := [23, 22, 6, 5, 1]) (ids := [7, 6, 5, 4, 3, 0, 1, 2]) (nx := 8) (by kernel_rfl))
  intro u1_0 hR1 hP1 s' hl
  obtain ⟨kP1, hkP1, hpP1⟩ := hP1
  replace hpP1 : ∀ x ∈ u1_0, x.1 < (kP1 : Int) := hpP1
  refine WP_le hl ?_
  clear hl s'
  refine WP_seq (WP_region (WPO_all tt_ok (by kernel_rfl) ?_))
  refine WP_seq (WP_region (WPO_all tt_ok (by kernel_rfl) ?_))
  refine WP_seq (WP_seq (WP_region (WPO_all tt_ok (by kernel_rfl) ?_)))
  refine WP_loopA (ρ := (List Int) × Int) (fewestA_c2 b u1_0) (fewestA_b2 b u1_0) b.loads.length () (fun k : Nat => (k : Int)) (fun (ci : Int) (zz : Unit) => ⟨55, [(36, [], .s (.int .i64 ci)), (35, [], .s (.int .i64 (b.loads.length : Int))), (8, [], .s (.p 8 0))], [(9, .clo 98 [] [.s (.p 3 0), .s (.p 7 0), .s (.p 8 0)]), (8, .box 112 [.ref 9]), (7, .box 109 [.v (.map (some gM2))]), (6, mapE gM2 u1_0 stKey stVal), (5, .box 94 [.ref 0, .int .i64 b.rule, .int .i64 b.most, .v (.map (some gM1))]), (4, mapE gM1 (plL b) plKey plVal), (3, .box 24 [.ref 0, .int .i64 b.rule, .int .i64 b.most]), (0, .sl .ro 61 3 b.loads encLoad zLoad), (1, .pf NobodyAt (· = 1)), (2, .pf LanesAt (· = 0))], 10, []⟩) (fun zz : Unit => ⟨55, [], [(9, .clo 98 [] [.s (.p 3 0), .s (.p 7 0), .s (.p 8 0)]), (8, .box 112 [.ref 9]), (7, .box 109 [.v (.map (some gM2))]), (6, mapE gM2 u1_0 stKey stVal), (5, .box 94 [.ref 0, .int .i64 b.rule, .int .i64 b.most, .v (.map (some gM1))]), (4, mapE gM1 (plL b) plKey plVal), (3, .box 24 [.ref 0, .int .i64 b.rule, .int .i64 b.most]), (0, .sl .ro 61 3 b.loads encLoad zLoad), (1, .pf NobodyAt (· = 1)), (2, .pf LanesAt (· = 0))], 10, []⟩) (fun k zz => True) trivial ⟨0, rfl, Le_sel (ts := [36, 35, 8]) (ids := [9, 8, 7, 6, 5, 4, 3, 0, 1, 2]) (nx := 10) (by kernel_rfl)⟩ ?_ ?_
  · intro k2 zz hn2 hp2 hi2 Q2 hq2 ho2
    refine WP_seq (WP_region (WPO_all tt_ok (by kernel_rfl) ?_))
    refine WP_seq (WP_cond (decide ((k2 : Int) < (b.loads.length : Int))) (by kernel_rfl) (fun hc4 => ?_) (fun hc4 => ?_))
    rotate_left
    · refine WP_exit ?_
      show Q2 (.exit 2) _
      exact LA_exit hq2 () (loopR_end hi2 hc4) ⟨k2, hn2, hp2⟩ (Le_sel (ts := []) (ids := [9, 8, 7, 6, 5, 4, 3, 0, 1, 2]) (nx := 10) (by kernel_rfl))
    have hc4' := of_decide_eq_true hc4
    have hk2 : k2 < b.loads.length := by omega
    refine WP_skip ?_
    refine WP_seq (WP_block ?_)
    refine WP_seq (WP_region (WPO_all tt_ok (by kernel_rfl) ?_))
    refine WP_seq (WP_drawH [] (by kernel_rfl) (by kernel_rfl) ?_)
    refine H_run tt_ok [0, 1, 2] (f' := 7) (by kernel_rfl) (by kernel_rfl) (by kernel_rfl) ?_
    refine H_step 3 (by kernel_rfl) (by kernel_rfl) (fun hfz cx' hx1 hx2 => ?_)
    refine MKS tt_ok 33 3 (IntKind.i64.wrap ((k2 : Int) + 1)) (some 43) encI 0 (.int .i64 0) (by kernel_rfl) (by kernel_rfl) rfl (fun _ => rfl) (by kernel_rfl) (by rw [wrapI (by omega) (by omega)]; omega) (by kernel_rfl) ?_
    refine WPO_end (by kernel_rfl) ⟨rfl, (hfz.fnds [9, 8, 7, 6, 5, 4, 3, 0, 1, 2] (by kernel_rfl) ⟨by kernel_rfl, by kernel_rfl, by kernel_rfl, by kernel_rfl, by kernel_rfl, by kernel_rfl, by kernel_rfl, by kernel_rfl, by kernel_rfl, by kernel_rfl, trivial⟩ (by kernel_rfl)), ?_⟩
    refine H_step 4 (by kernel_rfl) (by kernel_rfl) (fun hfz cx' hx1 hx2 => ?_)
    refine CALLSL 98 [.s (.v (.slice none 0 0)), .s (.ref 10), .s (.p 3 0), .s (.p 7 0), .s (.p 8 0)] (fun sv5 => .t [(false, [.v sv5]), (false, [.bool (crossD b u1_0 b.loads.length [] (List.replicate (IntKind.i64.wrap ((k2 : Int) + 1)).toNat 0)).2])]) 1 (crossD b u1_0 b.loads.length [] (List.replicate (IntKind.i64.wrap ((k2 : Int) + 1)).toNat 0)).1 encI 0 (by decide) (by kernel_rfl) (goes_of (by kernel_rfl)) (fun _ => (by kernel_rfl)) (fun _ => (by kernel_rfl)) (fun _ _ _ => rfl) (fun nV w h => by
      obtain ⟨gx, hx1, _, hx2⟩ := h.ents (3, .box 24 [.ref 0, .int .i64 b.rule, .int .i64 b.most]) (fnd_mem (by kernel_rfl))
      obtain ⟨gt, ht1, _, ht2⟩ := h.ents (7, .box 109 [.v (.map (some gM2))]) (fnd_mem (by kernel_rfl))
      obtain ⟨gc, hc1, _, hc2⟩ := h.ents (8, .box 112 [.ref 9]) (fnd_mem (by kernel_rfl))
      exact cross_top u1_0 hb5 (nV 0) (nV 10) (nV 3) (nV 7) (nV 8) (nV 9) gx gt gM2 gc (List.replicate (IntKind.i64.wrap ((k2 : Int) + 1)).toNat 0) w (by rw [List.length_replicate, wrapI (by omega) (by omega)]; omega) (h.reads (id := 0) (kd := .ro) (e := 61) (by kernel_rfl)) (h.reads (id := 10) (kd := .own) (e := 3) (by kernel_rfl)) (h.ents (6, mapE gM2 u1_0 stKey stVal) (fnd_mem (by kernel_rfl))).1 hx1 ht1 hc1 hx2 ht2 (h.ents (9, .clo 98 [] [.s (.p 3 0), .s (.p 7 0), .s (.p 8 0)]) (fnd_mem (by kernel_rfl))) hc2) (fun sv5 => ?_)
    refine WPO_end (by kernel_rfl) ⟨rfl, (hfz.fnds [9, 8, 7, 6, 5, 4, 3, 0, 1, 2] (by kernel_rfl) ⟨by kernel_rfl, by kernel_rfl, by kernel_rfl, by kernel_rfl, by kernel_rfl, by kernel_rfl, by kernel_rfl, by kernel_rfl, by kernel_rfl, by kernel_rfl, trivial⟩ (by kernel_rfl)), ?_⟩
    refine H_run tt_ok [5, 6, 7, 8, 9] (f' := 0) (by kernel_rfl) (by kernel_rfl) (by kernel_rfl) ?_
    refine H_done (by kernel_rfl) ?_
    refine WP_seq (WP_region (WPO_all tt_ok (by kernel_rfl) ?_))
    refine WP_cond ((crossD b u1_0 b.loads.length [] (List.replicate (IntKind.i64.wrap ((k2 : Int) + 1)).toNat 0)).2) (by kernel_rfl) (fun hc6 => ?_) (fun hc6 => ?_)
    · refine WP_seq (WP_region (WPO_run tt_ok 2 (by kernel_rfl) ?_))
      refine SLEN tt_ok (.s (.v sv5)) [] (crossD b u1_0 b.loads.length [] (List.replicate (IntKind.i64.wrap ((k2 : Int) + 1)).toNat 0)).1.length (by kernel_rfl) (fun _ n w h => by obtain ⟨A, c, hv, _⟩ := (h.ents (11, slE sv5 1 (crossD b u1_0 b.loads.length [] (List.replicate (IntKind.i64.wrap ((k2 : Int) + 1)).toNat 0)).1 encI 0) (fnd_mem (by kernel_rfl))).1; exact ⟨A, c, hv⟩) (by kernel_rfl) ?_
      refine WPO_run tt_ok 1 (by kernel_rfl) ?_
      refine SLEN tt_ok (.s (.v sv5)) [] (crossD b u1_0 b.loads.length [] (List.replicate (IntKind.i64.wrap ((k2 : Int) + 1)).toNat 0)).1.length (by kernel_rfl) (fun _ n w h => by obtain ⟨A, c, hv, _⟩ := (h.ents (11, slE sv5 1 (crossD b u1_0 b.loads.length [] (List.replicate (IntKind.i64.wrap ((k2 : Int) + 1)).toNat 0)).1 encI 0) (fnd_mem (by kernel_rfl))).1; exact ⟨A, c, hv⟩) (by kernel_rfl) ?_
      refine SLVF tt_ok 11 sv5 3 1 (crossD b u1_0 b.loads.length [] (List.replicate (IntKind.i64.wrap ((k2 : Int) + 1)).toNat 0)).1 encI 0 (some 53) (by kernel_rfl) (by kernel_rfl) (fun _ => (by kernel_rfl)) (fun sv6 => ?_)
      refine WPO_all tt_ok (by kernel_rfl) ?_
      refine WP_ret ?_
      show Q2 .ret _
      refine LA_ret hq2 ?_
      have he7 := loopR_ret (r := ((crossD b u1_0 b.loads.length [] (List.replicate (IntKind.i64.wrap ((k2 : Int) + 1)).toNat 0)).1, 0)) hi2 hk2 hc4 (by unfold fewestA_b2; simp only [hc6, cond_true, cond_false])
      exact ⟨.t [(false, [.v sv6]), (false, [.int .i64 0])], by kernel_rfl, fun nV w' h => ⟨sv6, by rw [show fewestA b = ((crossD b u1_0 b.loads.length [] (List.replicate (IntKind.i64.wrap ((k2 : Int) + 1)).toNat 0)).1, 0) from by unfold fewestA; simp only [hc2, hR1, he7, cond_true, cond_false]]; rfl, h.bel, by rw [show fewestA b = ((crossD b u1_0 b.loads.length [] (List.replicate (IntKind.i64.wrap ((k2 : Int) + 1)).toNat 0)).1, 0) from by unfold fewestA; simp only [hc2, hR1, he7, cond_true, cond_false]]; exact (slE_lt (id := 12) (v := sv6) (sz := 1) (li := (crossD b u1_0 b.loads.length [] (List.replicate (IntKind.i64.wrap ((k2 : Int) + 1)).toNat 0)).1) (enc := encI) (z := 0) h (by kernel_rfl)).1, (slE_lt (id := 12) (v := sv6) (sz := 1) (li := (crossD b u1_0 b.loads.length [] (List.replicate (IntKind.i64.wrap ((k2 : Int) + 1)).toNat 0)).1) (enc := encI) (z := 0) h (by kernel_rfl)).2⟩⟩
    refine WP_skip ?_
    refine WP_region (WPO_all tt_ok (by kernel_rfl) ?_)
    show Q2 .normal _
    exact LA_go hq2 (ci := IntKind.i64.wrap ((k2 : Int) + 1)) () hk2 (by show _ = ((k2 + 1 : Nat) : Int); rw [wrapI (by omega) (by omega)]; omega) (loopR_go hi2 hk2 hc4 (by unfold fewestA_b2; simp only [hc6, cond_true, cond_false])) trivial (Le_sel (ts := [36, 35, 8]) (ids := [9, 8, 7, 6, 5, 4, 3, 0, 1, 2]) (nx := 10) (by kernel_rfl))
  intro zz hR2 hP2 s' hl
  refine WP_le hl ?_
  clear hl s'
  refine WP_seq (WP_region (WPO_all tt_ok (by kernel_rfl) ?_))
  refine WP_ret ?_
  exact ⟨.t [(false, [.v (.slice none 0 0)]), (false, [.int .i64 4])], by kernel_rfl, fun nV w' h => ⟨.slice none 0 0, by rw [show fewestA b = ([], 4) from by unfold fewestA; simp only [hc2, hR1, hR2, cond_true, cond_false]]; rfl, h.bel, by rw [show fewestA b = ([], 4) from by unfold fewestA; simp only [hc2, hR1, hR2, cond_true, cond_false]]; exact reads_nil, fun g hg => by cases hg⟩⟩
end Go.Proofs.YthfnedbpmdkdjaaDoor.D
namespace Go.Proofs.YthfnedbpmdkdjaaDoor.D
open Go Go.RowKit Go.Proofs.YthfnedbpmdkdjaaDoor.Eng Go.Proofs.YthfnedbpmdkdjaaDoor.Cm
set_option linter.unusedVariables false
set_option linter.unusedSimpArgs false
set_option linter.unusedSectionVars false
def weighA_c2 (b : DBook) (k1 : Nat) (v1_1 : Int) (v1_2 : Int) (k2 : Nat) : Int → Bool := fun v2_1 => decide ((k2 : Int) < (IntKind.i64.wrap ((IntKind.i64.wrap ((b.loads.getD k1 zLoad).w.hi - (b.loads.getD k1 zLoad).w.lo)) + 1)))
def weighA_b2 (b : DBook) (k1 : Nat) (v1_1 : Int) (v1_2 : Int) (k2 : Nat) : Int → Bd Int (Int × Int) := fun v2_1 => .go (mn v2_1 ((mostD (⟨(cloneL b.loads).set k1 (⟨(⟨IntKind.i64.wrap ((b.loads.getD k1 zLoad).w.lo + (k2 : Int)), IntKind.i64.wrap ((b.loads.getD k1 zLoad).w.lo + (k2 : Int))⟩ : Span), ((cloneL b.loads).getD k1 zLoad).lanes⟩ : Load), b.rule, b.most⟩ : DBook)).length : Int))
def weighA_c1 (b : DBook) (k1 : Nat) : (Int × Int) → Bool := fun (v1_1, v1_2) => decide ((k1 : Int) < (b.loads.length : Int))
def weighA_b1 (b : DBook) (k1 : Nat) : (Int × Int) → Bd (Int × Int) (Int × Int) := fun (v1_1, v1_2) => (bif (IntKind.i64.wrap ((b.loads.getD k1 zLoad).w.hi - (b.loads.getD k1 zLoad).w.lo)) == 0 then .go (v1_1, v1_2) else (match loopR (weighA_c2 b k1 v1_1 v1_2) (weighA_b2 b k1 v1_1 v1_2) ((IntKind.i64.wrap ((IntKind.i64.wrap ((b.loads.getD k1 zLoad).w.hi - (b.loads.getD k1 zLoad).w.lo)) + 1)) : Int).toNat 0 (b.loads.length : Int) with | .brk u2_0 => .go (bif (decide ((greatestD u2_0 ([v1_1])) > v1_1)) then u2_0 else v1_1, bif (decide ((greatestD u2_0 ([v1_1])) > v1_1)) then (k1 : Int) else v1_2) | .ret r => .ret r))
def weighA (b : DBook) : Int × Int :=
  (bif (checkD b) != 0 then (0, (checkD b)) else (match loopR (weighA_c1 b) (weighA_b1 b) b.loads.length 0 (-1, -1) with | .brk (u1_0, u1_1) => (bif decide (u1_1 < 0) then (0, 4) else (u1_1, 0)) | .ret r => r))
set_option maxHeartbeats 1000000 in
theorem weighA_calls (g0 : Value) (b : DBook) (w : World) (r0 : Reads w g0 3 b.loads encLoad zLoad) (hnb : NobodyAt w) (hla : LanesAt w) : Calls Tryd.prog 48 #[.agg #[g0, iv b.rule, iv b.most]] w fun e w' => e = .returned (.tuple #[iv (weighA b).1, iv (weighA b).2]) ∧ Below w.heap.size w w' := by
  refine calls_of_WP (cx := cx0 w (vn [g0]) 1) (n := vn [g0]) (vs := [.g [.ref 0, .int .i64 b.rule, .int .i64 b.most]]) (hp := [(0, .sl .ro 61 3 b.loads encLoad zLoad), (1, .pf NobodyAt (· = 1)), (2, .pf LanesAt (· = 0))]) (nx := 3) tt_ok Tryd.func48 rfl rfl rfl (by kernel_rfl) (HSat_args (vn_one (by simp [r0.one])) (by decide) ⟨⟨⟨fun _ => rfl, by decide, r0⟩, (Nat.le_of_ble_eq_true rfl)⟩, ⟨⟨hnb, fun w1 w2 h1 hw => (hw 1 rfl).trans h1, fun g hg => by cases hg; exact (Array.getElem?_eq_some_iff.1 hnb).1⟩, (Nat.le_of_ble_eq_true rfl)⟩, ⟨⟨hla, fun w1 w2 h1 hw => (hw 0 rfl).trans h1, fun g hg => by cases hg; exact (Array.getElem?_eq_some_iff.1 hla).1⟩, (Nat.le_of_ble_eq_true rfl)⟩, trivial⟩) (vsOk (by kernel_rfl)) ?_
  have hl0 := Reads.len r0
  refine WP_seq (WP_region (WPO_all tt_ok (by kernel_rfl) ?_))
  refine WP_seq (WP_seq (WP_region (WPO_run tt_ok 1 (by kernel_rfl) ?_)))
  refine CALL 66 [.g [.ref 0, .int .i64 b.rule, .int .i64 b.most]] (.s (.int .i64 (checkD b))) [] (by kernel_rfl) (goes_of (by kernel_rfl)) (by kernel_rfl) (by kernel_rfl) (fun _ nV w h => checkD_calls (nV 0) b w (h.reads (id := 0) (kd := .ro) (e := 61) (by kernel_rfl)) ) ?_
  refine WPO_all tt_ok (by kernel_rfl) ?_
  refine WP_seq (WP_region (WPO_all tt_ok (by kernel_rfl) ?_))
  refine WP_cond ((checkD b) != 0) (by kernel_rfl) (fun hc2 => ?_) (fun hc2 => ?_)
  · have hc2' := hc2; try simp only [Bool.and_eq_true, Bool.or_eq_true, Bool.and_eq_false_iff, Bool.or_eq_false_iff, Bool.not_eq_true', Bool.not_eq_false', decide_eq_true_eq, decide_eq_false_iff_not, beq_iff_eq, beq_eq_false_iff_ne, bne_iff_ne, bne_eq_false_iff_eq, ne_eq] at hc2'
    refine WP_seq (WP_region (WPO_all tt_ok (by kernel_rfl) ?_))
    refine WP_ret ?_
    exact ⟨.t [(false, [.int .i64 0]), (false, [.int .i64 (checkD b)])], by kernel_rfl, fun nV w' h => ⟨by rw [show weighA b = (0, (checkD b)) from by unfold weighA; simp only [hc2, cond_true, cond_false]]; rfl, h.bel⟩⟩
  have hc2' := hc2; try simp only [Bool.and_eq_true, Bool.or_eq_true, Bool.and_eq_false_iff, Bool.or_eq_false_iff, Bool.not_eq_true', Bool.not_eq_false', decide_eq_true_eq, decide_eq_false_iff_not, beq_iff_eq, beq_eq_false_iff_ne, bne_iff_ne, bne_eq_false_iff_eq, ne_eq] at hc2'
  refine WP_skip ?_
  have hv : ValidD b := checkD_valid.1 (bne_eq_false_iff_eq.1 (by assumption))
  have hb5 := hv.n.2
  have hcl : (cloneL b.loads).length = b.loads.length := rfl
  refine WP_seq (WP_region (WPO_all tt_ok (by kernel_rfl) ?_))
  refine WP_seq (WP_seq (WP_region (WPO_all tt_ok (by kernel_rfl) ?_)))
  refine WP_loopA (ρ := Int × Int) (weighA_c1 b) (weighA_b1 b) b.loads.length (-1, -1) (fun k : Nat => (k : Int)) (fun (ci : Int) (zz : Int × Int) => ⟨83, [(21, [], .s (.int .i64 ci)), (20, [], .s (.int .i64 (b.loads.length : Int))), (19, [], .s (.ref 0)), (6, [], .s (.int .i64 zz.1)), (5, [], .s (.int .i64 zz.2)), (1, [], .s (.p 3 0))], [(3, .box 24 [.ref 0, .int .i64 b.rule, .int .i64 b.most]), (0, .sl .ro 61 3 b.loads encLoad zLoad), (1, .pf NobodyAt (· = 1)), (2, .pf LanesAt (· = 0))], 4, []⟩) (fun zz : Int × Int => ⟨83, [(5, [], .s (.int .i64 zz.2))], [(3, .box 24 [.ref 0, .int .i64 b.rule, .int .i64 b.most]), (0, .sl .ro 61 3 b.loads encLoad zLoad), (1, .pf NobodyAt (· = 1)), (2, .pf LanesAt (· = 0))], 4, []⟩) (fun k zz => True) trivial ⟨0, rfl, Le_sel (ts := [21, 20, 19, 6, 5, 1]) (ids := [3, 0, 1, 2]) (nx := 4) (by kernel_rfl)⟩ ?_ ?_
  · intro k1 zz hn1 hp1 hi1 Q1 hq1 ho1
    obtain ⟨v1_1, v1_2⟩ := zz
    refine WP_seq (WP_region (WPO_all tt_ok (by kernel_rfl) ?_))
    refine WP_seq (WP_cond (decide ((k1 : Int) < (b.loads.length : Int))) (by kernel_rfl) (fun hc3 => ?_) (fun hc3 => ?_))
    rotate_left
    · refine WP_exit ?_
      show Q1 (.exit 0) _
      exact LA_exit hq1 (v1_1, v1_2) (loopR_end hi1 hc3) ⟨k1, hn1, hp1⟩ (Le_sel (ts := [5]) (ids := [3, 0, 1, 2]) (nx := 4) (by kernel_rfl))
    have hc3' := of_decide_eq_true hc3
    have hk1 : k1 < b.loads.length := by omega
    have hld := (hv.load hk1).1
    have hw1 : IntKind.i64.wrap ((b.loads.getD k1 zLoad).w.hi - (b.loads.getD k1 zLoad).w.lo) = (b.loads.getD k1 zLoad).w.hi - (b.loads.getD k1 zLoad).w.lo := wrapI (by omega) (by omega)
    have hw2 : IntKind.i64.wrap (IntKind.i64.wrap ((b.loads.getD k1 zLoad).w.hi - (b.loads.getD k1 zLoad).w.lo) + 1) = (b.loads.getD k1 zLoad).w.hi - (b.loads.getD k1 zLoad).w.lo + 1 := by rw [hw1, wrapI (by omega) (by omega)]
    refine WP_skip ?_
    refine WP_seq (WP_block ?_)
    refine WP_seq (WP_region (WPO_run tt_ok 1 (by kernel_rfl) ?_))
    refine IX tt_ok (k1 : Int) b.loads.length [] (by kernel_rfl) (fun hG => ⟨by omega, by omega⟩) ?_
    refine WPO_all tt_ok (by kernel_rfl) ?_
    refine WP_seq (WP_region (WPO_all tt_ok (by kernel_rfl) ?_))
    refine WP_seq (WP_seq (WP_region (WPO_all tt_ok (by kernel_rfl) ?_)))
    refine WP_cond ((IntKind.i64.wrap ((b.loads.getD k1 zLoad).w.hi - (b.loads.getD k1 zLoad).w.lo)) == 0) (by kernel_rfl) (fun hc5 => ?_) (fun hc5 => ?_)
    · have hc5' := hc5; try simp only [Bool.and_eq_true, Bool.or_eq_true, Bool.and_eq_false_iff, Bool.or_eq_false_iff, Bool.not_eq_true', Bool.not_eq_false', decide_eq_true_eq, decide_eq_false_iff_not, beq_iff_eq, beq_eq_false_iff_ne, bne_iff_ne, bne_eq_false_iff_eq, ne_eq] at hc5'
      refine WP_exit ?_
      refine WP_region (WPO_all tt_ok (by kernel_rfl) ?_)
      show Q1 .normal _
      exact LA_go hq1 (ci := IntKind.i64.wrap ((k1 : Int) + 1)) (v1_1, v1_2) hk1 (by show _ = ((k1 + 1 : Nat) : Int); rw [wrapI (by omega) (by omega)]; omega) (loopR_go hi1 hk1 hc3 (by unfold weighA_b1; simp only [hc5, cond_true, cond_false])) trivial (Le_sel (ts := [21, 20, 19, 6, 5, 1]) (ids := [3, 0, 1, 2]) (nx := 4) (by kernel_rfl))
    have hc5' := hc5; try simp only [Bool.and_eq_true, Bool.or_eq_true, Bool.and_eq_false_iff, Bool.or_eq_false_iff, Bool.not_eq_true', Bool.not_eq_false', decide_eq_true_eq, decide_eq_false_iff_not, beq_iff_eq, beq_eq_false_iff_ne, bne_iff_ne, bne_eq_false_iff_eq, ne_eq] at hc5'
    refine WP_skip ?_
    refine WP_seq (WP_region (WPO_all tt_ok (by kernel_rfl) ?_))
    refine WP_seq (WP_seq (WP_region (WPO_all tt_ok (by kernel_rfl) ?_)))
    refine WP_loopA (ρ := Int × Int) (weighA_c2 b k1 v1_1 v1_2) (weighA_b2 b k1 v1_1 v1_2) ((IntKind.i64.wrap ((IntKind.i64.wrap ((b.loads.getD k1 zLoad).w.hi - (b.loads.getD k1 zLoad).w.lo)) + 1)) : Int).toNat (b.loads.length : Int) (fun k : Nat => (k : Int)) (fun (ci : Int) (zz : Int) => ⟨83, [(40, [], .s (.int .i64 ci)), (39, [], .s (.int .i64 (IntKind.i64.wrap ((IntKind.i64.wrap ((b.loads.getD k1 zLoad).w.hi - (b.loads.getD k1 zLoad).w.lo)) + 1)))), (10, [], .s (.int .i64 zz)), (7, [], .s (.int .i64 (k1 : Int))), (8, [], .s (.p 4 0)), (21, [], .s (.int .i64 (k1 : Int))), (20, [], .s (.int .i64 (b.loads.length : Int))), (19, [], .s (.ref 0)), (6, [], .s (.int .i64 v1_1)), (5, [], .s (.int .i64 v1_2)), (1, [], .s (.p 3 0))], [(4, .box 61 [.int .i64 (b.loads.getD k1 zLoad).w.lo, .int .i64 (b.loads.getD k1 zLoad).w.hi, .int .i64 (b.loads.getD k1 zLoad).lanes]), (3, .box 24 [.ref 0, .int .i64 b.rule, .int .i64 b.most]), (0, .sl .ro 61 3 b.loads encLoad zLoad), (1, .pf NobodyAt (· = 1)), (2, .pf LanesAt (· = 0))], 5, []⟩) (fun zz : Int => ⟨83, [(10, [], .s (.int .i64 zz)), (7, [], .s (.int .i64 (k1 : Int))), (21, [], .s (.int .i64 (k1 : Int))), (20, [], .s (.int .i64 (b.loads.length : Int))), (19, [], .s (.ref 0)), (6, [], .s (.int .i64 v1_1)), (5, [], .s (.int .i64 v1_2)), (1, [], .s (.p 3 0))], [(4, .box 61 [.int .i64 (b.loads.getD k1 zLoad).w.lo, .int .i64 (b.loads.getD k1 zLoad).w.hi, .int .i64 (b.loads.getD k1 zLoad).lanes]), (3, .box 24 [.ref 0, .int .i64 b.rule, .int .i64 b.most]), (0, .sl .ro 61 3 b.loads encLoad zLoad), (1, .pf NobodyAt (· = 1)), (2, .pf LanesAt (· = 0))], 5, []⟩) (fun k zz => True) trivial ⟨0, rfl, Le_sel (ts := [40, 39, 10, 7, 8, 21, 20, 19, 6, 5, 1]) (ids := [4, 3, 0, 1, 2]) (nx := 5) (by kernel_rfl)⟩ ?_ ?_
    · intro k2 v2_1 hn2 hp2 hi2 Q2 hq2 ho2
      refine WP_seq (WP_region (WPO_all tt_ok (by kernel_rfl) ?_))
      refine WP_seq (WP_cond (decide ((k2 : Int) < (IntKind.i64.wrap ((IntKind.i64.wrap ((b.loads.getD k1 zLoad).w.hi - (b.loads.getD k1 zLoad).w.lo)) + 1)))) (by kernel_rfl) (fun hc6 => ?_) (fun hc6 => ?_))
      rotate_left
      · refine WP_exit ?_
        show Q2 (.exit 2) _
        exact LA_exit hq2 v2_1 (loopR_end hi2 hc6) ⟨k2, hn2, hp2⟩ (Le_sel (ts := [10, 7, 21, 20, 19, 6, 5, 1]) (ids := [4, 3, 0, 1, 2]) (nx := 5) (by kernel_rfl))
      have hc6' := of_decide_eq_true hc6
      have hk2 : k2 < ((IntKind.i64.wrap ((IntKind.i64.wrap ((b.loads.getD k1 zLoad).w.hi - (b.loads.getD k1 zLoad).w.lo)) + 1)) : Int).toNat := by omega
      refine WP_skip ?_
      refine WP_seq (WP_block ?_)
      refine WP_seq (WP_region (WPO_all tt_ok (by kernel_rfl) ?_))
      refine WP_le (s' := ⟨83, [(11, [], .s (.int .i64 (k2 : Int))), (40, [], .s (.int .i64 (k2 : Int))), (39, [], .s (.int .i64 (IntKind.i64.wrap ((IntKind.i64.wrap ((b.loads.getD k1 zLoad).w.hi - (b.loads.getD k1 zLoad).w.lo)) + 1)))), (10, [], .s (.int .i64 v2_1)), (7, [], .s (.int .i64 (k1 : Int))), (8, [], .s (.p 4 0)), (21, [], .s (.int .i64 (k1 : Int))), (20, [], .s (.int .i64 (b.loads.length : Int))), (19, [], .s (.ref 0)), (6, [], .s (.int .i64 v1_1)), (5, [], .s (.int .i64 v1_2)), (1, [], .s (.p 3 0))], [(4, .box 61 [.int .i64 (b.loads.getD k1 zLoad).w.lo, .int .i64 (b.loads.getD k1 zLoad).w.hi, .int .i64 (b.loads.getD k1 zLoad).lanes]), (3, .box 24 [.ref 0, .int .i64 b.rule, .int .i64 b.most]), (0, .sl .ro 61 3 b.loads encLoad zLoad), (1, .pf NobodyAt (· = 1)), (2, .pf LanesAt (· = 0))], 5, []⟩) (Le_sel (ts := [11, 40, 39, 10, 7, 8, 21, 20, 19, 6, 5, 1]) (ids := [4, 3, 0, 1, 2]) (nx := 5) (by kernel_rfl)) ?_
      refine WP_seq (WP_region (WPO_all tt_ok (by kernel_rfl) ?_))
      refine WP_seq (WP_region (WPO_run tt_ok 2 (by kernel_rfl) ?_))
      refine CALLO 103 [.s (.ref 0)] (.s (.ref 6)) 61 3 (cloneL b.loads) encLoad zLoad 6 (by kernel_rfl) (by kernel_rfl) (goes_of (by kernel_rfl)) (by kernel_rfl) (by kernel_rfl) (fun _ => rfl) ((fun nV w h => cloneL_calls (nV 0) b.loads w (h.reads (id := 0) (kd := .ro) (e := 61) (by kernel_rfl)) (by first | assumption | omega | (simp only [List.length_set, cloneL]; omega)))) ?_
      refine WPO_all tt_ok (by kernel_rfl) ?_
      refine WP_le (s' := ⟨83, [(12, [], .s (.p 5 0)), (11, [], .s (.int .i64 (k2 : Int))), (40, [], .s (.int .i64 (k2 : Int))), (39, [], .s (.int .i64 (IntKind.i64.wrap ((IntKind.i64.wrap ((b.loads.getD k1 zLoad).w.hi - (b.loads.getD k1 zLoad).w.lo)) + 1)))), (10, [], .s (.int .i64 v2_1)), (7, [], .s (.int .i64 (k1 : Int))), (8, [], .s (.p 4 0)), (21, [], .s (.int .i64 (k1 : Int))), (20, [], .s (.int .i64 (b.loads.length : Int))), (19, [], .s (.ref 0)), (6, [], .s (.int .i64 v1_1)), (5, [], .s (.int .i64 v1_2)), (1, [], .s (.p 3 0))], [(6, .sl .own 61 3 (cloneL b.loads) encLoad zLoad), (5, .box 24 [.ref 6, .int .i64 b.rule, .int .i64 b.most]), (4, .box 61 [.int .i64 (b.loads.getD k1 zLoad).w.lo, .int .i64 (b.loads.getD k1 zLoad).w.hi, .int .i64 (b.loads.getD k1 zLoad).lanes]), (3, .box 24 [.ref 0, .int .i64 b.rule, .int .i64 b.most]), (0, .sl .ro 61 3 b.loads encLoad zLoad), (1, .pf NobodyAt (· = 1)), (2, .pf LanesAt (· = 0))], 7, []⟩) (Le_sel (ts := [12, 11, 40, 39, 10, 7, 8, 21, 20, 19, 6, 5, 1]) (ids := [6, 5, 4, 3, 0, 1, 2]) (nx := 7) (by kernel_rfl)) ?_
      refine WP_seq (WP_region (WPO_run tt_ok 14 (by kernel_rfl) ?_))
      refine IX tt_ok (k1 : Int) (cloneL b.loads).length [] (by kernel_rfl) (fun hG => ⟨by omega, by omega⟩) ?_
      refine WPO_run tt_ok 1 (by kernel_rfl) ?_
      refine EST tt_ok 6 (k1 : Int) 3 0 61 43 (cloneL b.loads) encLoad zLoad (⟨(⟨IntKind.i64.wrap ((b.loads.getD k1 zLoad).w.lo + (k2 : Int)), IntKind.i64.wrap ((b.loads.getD k1 zLoad).w.lo + (k2 : Int))⟩ : Span), ((cloneL b.loads).getD k1 zLoad).lanes⟩ : Load) (.g [.int .i64 (IntKind.i64.wrap ((b.loads.getD k1 zLoad).w.lo + (k2 : Int))), .int .i64 (IntKind.i64.wrap ((b.loads.getD k1 zLoad).w.lo + (k2 : Int)))]) (by kernel_rfl) (by kernel_rfl) (by kernel_rfl) (by kernel_rfl) ⟨by omega, by omega⟩ (fun n => rfl) ?_
      refine WPO_nil ?_
      refine WP_le (s' := ⟨83, [(12, [], .s (.p 5 0)), (40, [], .s (.int .i64 (k2 : Int))), (39, [], .s (.int .i64 (IntKind.i64.wrap ((IntKind.i64.wrap ((b.loads.getD k1 zLoad).w.hi - (b.loads.getD k1 zLoad).w.lo)) + 1)))), (10, [], .s (.int .i64 v2_1)), (7, [], .s (.int .i64 (k1 : Int))), (8, [], .s (.p 4 0)), (21, [], .s (.int .i64 (k1 : Int))), (20, [], .s (.int .i64 (b.loads.length : Int))), (19, [], .s (.ref 0)), (6, [], .s (.int .i64 v1_1)), (5, [], .s (.int .i64 v1_2)), (1, [], .s (.p 3 0))], [(6, .sl .own 61 3 ((cloneL b.loads).set k1 (⟨(⟨IntKind.i64.wrap ((b.loads.getD k1 zLoad).w.lo + (k2 : Int)), IntKind.i64.wrap ((b.loads.getD k1 zLoad).w.lo + (k2 : Int))⟩ : Span), ((cloneL b.loads).getD k1 zLoad).lanes⟩ : Load)) encLoad zLoad), (5, .box 24 [.ref 6, .int .i64 b.rule, .int .i64 b.most]), (4, .box 61 [.int .i64 (b.loads.getD k1 zLoad).w.lo, .int .i64 (b.loads.getD k1 zLoad).w.hi, .int .i64 (b.loads.getD k1 zLoad).lanes]), (3, .box 24 [.ref 0, .int .i64 b.rule, .int .i64 b.most]), (0, .sl .ro 61 3 b.loads encLoad zLoad), (1, .pf NobodyAt (· = 1)), (2, .pf LanesAt (· = 0))], 7, []⟩) (Le_sel (ts := [12, 40, 39, 10, 7, 8, 21, 20, 19, 6, 5, 1]) (ids := [6, 5, 4, 3, 0, 1, 2]) (nx := 7) (by kernel_rfl)) ?_
      refine WP_region (WPO_run tt_ok 2 (by kernel_rfl) ?_)
      refine CALLMAP 90 [.g [.ref 6, .int .i64 b.rule, .int .i64 b.most]] (plL (⟨(cloneL b.loads).set k1 (⟨(⟨IntKind.i64.wrap ((b.loads.getD k1 zLoad).w.lo + (k2 : Int)), IntKind.i64.wrap ((b.loads.getD k1 zLoad).w.lo + (k2 : Int))⟩ : Span), ((cloneL b.loads).getD k1 zLoad).lanes⟩ : Load), b.rule, b.most⟩ : DBook)) plKey plVal (fun gM7 => .g [.ref 6, .int .i64 b.rule, .int .i64 b.most, .v (.map (some gM7))]) (by kernel_rfl) (goes_of (by kernel_rfl)) (fun _ => (by kernel_rfl)) (fun _ => (by kernel_rfl)) (fun _ n n' h => by simp only [AV.c, cellsV, part1, AC.c, List.map_cons, List.map_nil, h 6 (by show 6 < 7; decide)]) (fun nV w h => opened_plL (nV 6) (⟨(cloneL b.loads).set k1 (⟨(⟨IntKind.i64.wrap ((b.loads.getD k1 zLoad).w.lo + (k2 : Int)), IntKind.i64.wrap ((b.loads.getD k1 zLoad).w.lo + (k2 : Int))⟩ : Span), ((cloneL b.loads).getD k1 zLoad).lanes⟩ : Load), b.rule, b.most⟩ : DBook) w (h.reads (id := 6) (kd := .own) (e := 61) (by kernel_rfl)) (h.ents (1, .pf NobodyAt (· = 1)) (fnd_mem (by kernel_rfl))).1 (by first | assumption | omega | (simp only [List.length_set, cloneL]; omega))) (fun gM7 => ?_)
      refine CALLSL 95 [.g [.ref 6, .int .i64 b.rule, .int .i64 b.most, .v (.map (some gM7))]] (fun sv8 => .s (.v sv8)) 1 (mostD (⟨(cloneL b.loads).set k1 (⟨(⟨IntKind.i64.wrap ((b.loads.getD k1 zLoad).w.lo + (k2 : Int)), IntKind.i64.wrap ((b.loads.getD k1 zLoad).w.lo + (k2 : Int))⟩ : Span), ((cloneL b.loads).getD k1 zLoad).lanes⟩ : Load), b.rule, b.most⟩ : DBook)) encI 0 (by decide) (by kernel_rfl) (goes_of (by kernel_rfl)) (fun _ => (by kernel_rfl)) (fun _ => (by kernel_rfl)) (fun _ _ _ => rfl) (fun nV w h => mostD_calls (nV 6) gM7 (⟨(cloneL b.loads).set k1 (⟨(⟨IntKind.i64.wrap ((b.loads.getD k1 zLoad).w.lo + (k2 : Int)), IntKind.i64.wrap ((b.loads.getD k1 zLoad).w.lo + (k2 : Int))⟩ : Span), ((cloneL b.loads).getD k1 zLoad).lanes⟩ : Load), b.rule, b.most⟩ : DBook) w (h.reads (id := 6) (kd := .own) (e := 61) (by kernel_rfl)) (h.ents (7, mapE gM7 (plL (⟨(cloneL b.loads).set k1 (⟨(⟨IntKind.i64.wrap ((b.loads.getD k1 zLoad).w.lo + (k2 : Int)), IntKind.i64.wrap ((b.loads.getD k1 zLoad).w.lo + (k2 : Int))⟩ : Span), ((cloneL b.loads).getD k1 zLoad).lanes⟩ : Load), b.rule, b.most⟩ : DBook)) plKey plVal) (fnd_mem (by kernel_rfl))).1 (h.ents (2, .pf LanesAt (· = 0)) (fnd_mem (by kernel_rfl))).1 (by first | assumption | omega | (simp only [List.length_set, cloneL]; omega))) (fun sv8 => ?_)
      refine SLEN tt_ok (.s (.v sv8)) [] (mostD (⟨(cloneL b.loads).set k1 (⟨(⟨IntKind.i64.wrap ((b.loads.getD k1 zLoad).w.lo + (k2 : Int)), IntKind.i64.wrap ((b.loads.getD k1 zLoad).w.lo + (k2 : Int))⟩ : Span), ((cloneL b.loads).getD k1 zLoad).lanes⟩ : Load), b.rule, b.most⟩ : DBook)).length (by kernel_rfl) (fun _ n w h => by obtain ⟨A, c, hv, _⟩ := (h.ents (8, slE sv8 1 (mostD (⟨(cloneL b.loads).set k1 (⟨(⟨IntKind.i64.wrap ((b.loads.getD k1 zLoad).w.lo + (k2 : Int)), IntKind.i64.wrap ((b.loads.getD k1 zLoad).w.lo + (k2 : Int))⟩ : Span), ((cloneL b.loads).getD k1 zLoad).lanes⟩ : Load), b.rule, b.most⟩ : DBook)) encI 0) (fnd_mem (by kernel_rfl))).1; exact ⟨A, c, hv⟩) (by kernel_rfl) ?_
      refine WPO_all tt_ok (by kernel_rfl) ?_
      refine WP_region (WPO_all tt_ok (by kernel_rfl) ?_)
      show Q2 .normal _
      exact LA_go hq2 (ci := IntKind.i64.wrap ((k2 : Int) + 1)) (mn v2_1 ((mostD (⟨(cloneL b.loads).set k1 (⟨(⟨IntKind.i64.wrap ((b.loads.getD k1 zLoad).w.lo + (k2 : Int)), IntKind.i64.wrap ((b.loads.getD k1 zLoad).w.lo + (k2 : Int))⟩ : Span), ((cloneL b.loads).getD k1 zLoad).lanes⟩ : Load), b.rule, b.most⟩ : DBook)).length : Int)) hk2 (by show _ = ((k2 + 1 : Nat) : Int); rw [wrapI (by omega) (by omega)]; omega) (loopR_go hi2 hk2 hc6 (rfl)) trivial (Le_sel (ts := [40, 39, 10, 7, 8, 21, 20, 19, 6, 5, 1]) (ids := [4, 3, 0, 1, 2]) (nx := 5) (by kernel_rfl))
    intro u2_0 hR2 hP2 s' hl
    refine WP_le hl ?_
    clear hl s'
    refine WP_le (s' := ⟨83, [(10, [], .s (.int .i64 u2_0)), (7, [], .s (.int .i64 (k1 : Int))), (21, [], .s (.int .i64 (k1 : Int))), (20, [], .s (.int .i64 (b.loads.length : Int))), (19, [], .s (.ref 0)), (6, [], .s (.int .i64 v1_1)), (5, [], .s (.int .i64 v1_2)), (1, [], .s (.p 3 0))], [(4, .box 61 [.int .i64 (b.loads.getD k1 zLoad).w.lo, .int .i64 (b.loads.getD k1 zLoad).w.hi, .int .i64 (b.loads.getD k1 zLoad).lanes]), (3, .box 24 [.ref 0, .int .i64 b.rule, .int .i64 b.most]), (0, .sl .ro 61 3 b.loads encLoad zLoad), (1, .pf NobodyAt (· = 1)), (2, .pf LanesAt (· = 0))], 5, []⟩) (Le_sel (ts := [10, 7, 21, 20, 19, 6, 5, 1]) (ids := [4, 3, 0, 1, 2]) (nx := 5) (by kernel_rfl)) ?_
    refine WP_seq (WP_region (WPO_run tt_ok 2 (by kernel_rfl) ?_))
    refine LIT tt_ok (by kernel_rfl) ?_
    refine LITSL 5 3 1 1 [.int .i64 v1_1] [v1_1] encI 0 (by kernel_rfl) rfl (fun _ => rfl) (fun n => rfl) ?_
    refine CALL 104 [.s (.int .i64 u2_0), .s (.ref 5)] (.s (.int .i64 (greatestD u2_0 ([v1_1])))) [] (by kernel_rfl) (goes_of (by kernel_rfl)) (by kernel_rfl) (by kernel_rfl) (fun _ nV w h => greatestD_calls (nV 5) u2_0 ([v1_1]) w (h.reads (id := 5) (kd := .own) (e := 3) (by kernel_rfl)) ) ?_
    refine WPO_all tt_ok (by kernel_rfl) ?_
    refine WP_join (decide ((greatestD u2_0 ([v1_1])) > v1_1)) (fun q => ⟨83, [(6, [], .s (.int .i64 (bif q then u2_0 else v1_1))), (5, [], .s (.int .i64 (bif q then (k1 : Int) else v1_2))), (21, [], .s (.int .i64 (k1 : Int))), (20, [], .s (.int .i64 (b.loads.length : Int))), (19, [], .s (.ref 0)), (1, [], .s (.p 3 0))], [(5, .sl .own 3 1 ([v1_1]) encI 0), (4, .box 61 [.int .i64 (b.loads.getD k1 zLoad).w.lo, .int .i64 (b.loads.getD k1 zLoad).w.hi, .int .i64 (b.loads.getD k1 zLoad).lanes]), (3, .box 24 [.ref 0, .int .i64 b.rule, .int .i64 b.most]), (0, .sl .ro 61 3 b.loads encLoad zLoad), (1, .pf NobodyAt (· = 1)), (2, .pf LanesAt (· = 0))], 6, []⟩) (by kernel_rfl) (fun hc8 => ?_) (fun hc8 => ?_) ?_
    · have hc8' := of_decide_eq_true hc8
      refine WP_region (WPO_all tt_ok (by kernel_rfl) ?_)
      exact Le_sel (ts := [6, 5, 21, 20, 19, 1]) (ids := [5, 4, 3, 0, 1, 2]) (nx := 6) (by kernel_rfl)
    · have hc8' := of_decide_eq_false hc8
      refine WP_skip ?_
      exact Le_sel (ts := [6, 5, 21, 20, 19, 1]) (ids := [5, 4, 3, 0, 1, 2]) (nx := 6) (by kernel_rfl)
    refine WP_region (WPO_all tt_ok (by kernel_rfl) ?_)
    show Q1 .normal _
    exact LA_go hq1 (ci := IntKind.i64.wrap ((k1 : Int) + 1)) (bif (decide ((greatestD u2_0 ([v1_1])) > v1_1)) then u2_0 else v1_1, bif (decide ((greatestD u2_0 ([v1_1])) > v1_1)) then (k1 : Int) else v1_2) hk1 (by show _ = ((k1 + 1 : Nat) : Int); rw [wrapI (by omega) (by omega)]; omega) (loopR_go hi1 hk1 hc3 (by unfold weighA_b1; simp only [hc5, hR2, cond_true, cond_false])) trivial (Le_sel (ts := [21, 20, 19, 6, 5, 1]) (ids := [3, 0, 1, 2]) (nx := 4) (by kernel_rfl))
  intro zz hR1 hP1 s' hl
  obtain ⟨u1_0, u1_1⟩ := zz
  refine WP_le hl ?_
  clear hl s'
  refine WP_seq (WP_seq (WP_region (WPO_all tt_ok (by kernel_rfl) ?_)))
  refine WP_cond (decide (u1_1 < 0)) (by kernel_rfl) (fun hc10 => ?_) (fun hc10 => ?_)
  · have hc10' := of_decide_eq_true hc10
    refine WP_seq (WP_region (WPO_all tt_ok (by kernel_rfl) ?_))
    refine WP_ret ?_
    exact ⟨.t [(false, [.int .i64 0]), (false, [.int .i64 4])], by kernel_rfl, fun nV w' h => ⟨by rw [show weighA b = (0, 4) from by unfold weighA; simp only [hc2, hR1, hc10, cond_true, cond_false]]; rfl, h.bel⟩⟩
  have hc10' := of_decide_eq_false hc10
  refine WP_skip ?_
  refine WP_seq (WP_region (WPO_all tt_ok (by kernel_rfl) ?_))
  refine WP_ret ?_
  exact ⟨.t [(false, [.int .i64 u1_1]), (false, [.int .i64 0])], by kernel_rfl, fun nV w' h => ⟨by rw [show weighA b = (u1_1, 0) from by unfold weighA; simp only [hc2, hR1, hc10, cond_true, cond_false]]; rfl, h.bel⟩⟩
end Go.Proofs.YthfnedbpmdkdjaaDoor.D
namespace Go.Proofs.YthfnedbpmdkdjaaDoor.D
open Go Go.RowKit Go.Proofs.YthfnedbpmdkdjaaDoor.Eng Go.Proofs.YthfnedbpmdkdjaaDoor.Cm
set_option linter.unusedVariables false
set_option linter.unusedSimpArgs false
set_option linter.unusedSectionVars false
theorem ownLoads_calls (g : Value) (l : List Load) (w : World) (r : Reads w g 3 l encLoad zLoad) (hL : l.length * 24 ≤ 140737488355328) : Calls Tryd.prog 72 #[g] w fun e w' => ∃ v0, e = .returned v0 ∧ Below w.heap.size w w' ∧ fineRs w.heap.size w' [⟨61, 3, _, l, encLoad, zLoad⟩] [v0] ∧ apartL [⟨61, 3, _, l, encLoad, zLoad⟩] [v0] := by
  have hl := Reads.len r
  have hcut : cut l 0 0 = [] := by simp [cut]
  refine calls_of_WP (cx := cx0 w (vn [g]) 1) (n := vn [g]) (vs := [.s (.ref 0)]) (hp := [(0, .sl .ro 61 3 l encLoad zLoad)]) (nx := 1) tt_ok Tryd.func72 rfl rfl rfl (by kernel_rfl) (HSat_args (vn_one (by simp [r.one])) (Nat.le_refl _) ⟨⟨⟨fun _ => rfl, by decide, r⟩, (Nat.le_of_ble_eq_true rfl)⟩, trivial⟩) (vsOk (by kernel_rfl)) ?_
  refine WP_seq (WP_region (WPO_all tt_ok (by kernel_rfl) ?_))
  refine WP_seq (WP_region (WPO_run tt_ok 1 (by kernel_rfl) ?_))
  refine SLC tt_ok 0 l.length .ro 61 3 0 0 (some 0) .full (some 4) (by kernel_rfl) (by kernel_rfl) ⟨by omega, by omega, by omega⟩ (.inr ⟨rfl, rfl⟩) ?_
  refine WPO_run tt_ok 1 (by kernel_rfl) ?_
  cases hll : l with
  | nil =>
    subst hll
    refine APPE tt_ok (.s (.ref 1)) (.s (.ref 0)) 22 61 (some 6) (by kernel_rfl) (by kernel_rfl) (by kernel_rfl) (by kernel_rfl) (by kernel_rfl) (by kernel_rfl) (by kernel_rfl) ?_
    refine WPO_all tt_ok (by kernel_rfl) ?_
    refine WP_ret ?_
    exact ⟨.s (.ref 1), by kernel_rfl, fun nV w' h => ⟨nV 1, rfl, h.bel, ⟨⟨hcut ▸ h.reads (id := 1) (kd := .full) (e := 61) (by kernel_rfl), fun g hg hp => absurd hp (by simp)⟩, trivial⟩, ⟨trivial, trivial⟩⟩⟩
  | cons x0 xr =>
    rw [← hll]
    have hpos : 0 < l.length := by rw [hll]; simp
    refine APP tt_ok (.s (.ref 1)) (.s (.ref 0)) 22 61 (some 6) 3 (cut l 0 0) l encLoad zLoad (by kernel_rfl) (by kernel_rfl) (by kernel_rfl) (by kernel_rfl) (.inr (.inr ⟨1, rfl, (by kernel_rfl)⟩)) (.inr ⟨0, .ro, rfl, (by kernel_rfl), hpos⟩) (by rw [hll]; simp) (fun y => rfl) (fun y => List.all_eq_true.1 rfl) (fun i hi => (by have hby : (tyL tt 61).map (·.bytes) = some 24 := (by kernel_rfl); rw [hi] at hby; simp only [Option.map_some, Option.some.injEq] at hby; rw [hby, hcut]; simp only [List.length_nil, Nat.zero_add]; omega)) ?_
    refine WPO_all tt_ok (by kernel_rfl) ?_
    refine WP_ret ?_
    exact ⟨.s (.ref 2), by kernel_rfl, fun nV w' h => ⟨nV 2, rfl, h.bel, ⟨by have h5 := own_lt (id := 2) (e := 61) (sz := 3) (li := cut l 0 0 ++ l) (enc := encLoad) (z := zLoad) h (by kernel_rfl); rw [hcut, List.nil_append] at h5; exact h5, trivial⟩, ⟨trivial, trivial⟩⟩⟩
def ownDeckF (b : DBook) : DBook :=
  b
theorem ownDeckF_calls (g0 : Value) (b : DBook) (w : World) (r0 : Reads w g0 3 b.loads encLoad zLoad) (hL0 : b.loads.length * 24 ≤ 140737488355328) : Calls Tryd.prog 16 #[.agg #[g0, iv b.rule, iv b.most]] w fun e w' => ∃ v0, e = .returned (.agg #[v0, iv (ownDeckF b).rule, iv (ownDeckF b).most]) ∧ Below w.heap.size w w' ∧ fineRs w.heap.size w' [⟨61, 3, _, (ownDeckF b).loads, encLoad, zLoad⟩] [v0] ∧ apartL [⟨61, 3, _, (ownDeckF b).loads, encLoad, zLoad⟩] [v0] := by
  refine calls_of_WP (cx := cx0 w (vn [g0]) 1) (n := vn [g0]) (vs := [.g [.ref 0, .int .i64 b.rule, .int .i64 b.most]]) (hp := [(0, .sl .ro 61 3 b.loads encLoad zLoad)]) (nx := 1) tt_ok Tryd.func16 rfl rfl rfl (by kernel_rfl) (HSat_args (vn_one (by simp [r0.one])) (Nat.le_refl _) ⟨⟨⟨fun _ => rfl, by decide, r0⟩, (Nat.le_of_ble_eq_true rfl)⟩, trivial⟩) (vsOk (by kernel_rfl)) ?_
  have hl0 := Reads.len r0
  refine WP_seq (WP_region (WPO_all tt_ok (by kernel_rfl) ?_))
  refine WP_seq (WP_region (WPO_run tt_ok 2 (by kernel_rfl) ?_))
  refine CALLF1 72 [.s (.ref 0)] (fun sv0_ => .s (.v sv0_)) ⟨61, 3, _, b.loads, encLoad, zLoad⟩ (by kernel_rfl) (goes_of (by kernel_rfl)) (fun _ _ => (by kernel_rfl)) (fun _ _ => (by kernel_rfl)) (fun _ _ _ _ => rfl) ⟨⟨(Nat.le_of_ble_eq_true rfl), fun _ => rfl⟩, trivial⟩ (fun nV w h => ownLoads_calls (nV 0) b.loads w (h.reads (id := 0) (kd := .ro) (e := 61) (by kernel_rfl)) (by assumption)) (fun sA1 sc1 => ?_)
  refine WPO_all tt_ok (by kernel_rfl) ?_
  refine WP_seq (WP_region (WPO_all tt_ok (by kernel_rfl) ?_))
  refine WP_ret ?_
  exact ⟨.g [.v (.slice sA1 b.loads.length sc1), .int .i64 b.rule, .int .i64 b.most], by kernel_rfl, fun nV w' h => ⟨(.slice sA1 b.loads.length sc1), by rw [show ownDeckF b = b from rfl]; rfl, h.bel, by rw [show ownDeckF b = b from rfl]; exact ⟨slF_lt (id := 3) (v := (.slice sA1 b.loads.length sc1)) (sz := 3) (li := b.loads) (enc := encLoad) (z := zLoad) h (by kernel_rfl), trivial⟩, by rw [show ownDeckF b = b from rfl]; exact ⟨trivial, trivial⟩⟩⟩
def keptLoadsF_c1 (a : List Load) (b : List Load) (k1 : Nat) : Bool → Bool := fun v1_1 => v1_1 && (decide ((k1 : Int) < (a.length : Int)))
def keptLoadsF_b1 (a : List Load) (b : List Load) (k1 : Nat) : Bool → Bd Bool Bool := fun v1_1 => .go ([(a.getD k1 zLoad).w.lo, (a.getD k1 zLoad).w.hi, (a.getD k1 zLoad).lanes] == [(b.getD k1 zLoad).w.lo, (b.getD k1 zLoad).w.hi, (b.getD k1 zLoad).lanes])
def keptLoadsF (a : List Load) (b : List Load) : Bool :=
  (match loopR (keptLoadsF_c1 a b) (keptLoadsF_b1 a b) a.length 0 ((a.length : Int) == (b.length : Int)) with | .brk u1_0 => u1_0 | .ret r => r)
theorem keptLoadsF_calls (g0 g1 : Value) (a : List Load) (b : List Load) (w : World) (r0 : Reads w g0 3 a encLoad zLoad) (r1 : Reads w g1 3 b encLoad zLoad)  : Calls Tryd.prog 77 #[g0, g1] w fun e w' => e = .returned (.bool (keptLoadsF a b)) ∧ Below w.heap.size w w' := by
  refine calls_of_WP (cx := cx0 w (vn [g0, g1]) 2) (n := vn [g0, g1]) (vs := [.s (.ref 0), .s (.ref 1)]) (hp := [(0, .sl .ro 61 3 a encLoad zLoad), (1, .sl .ro 61 3 b encLoad zLoad)]) (nx := 2) tt_ok Tryd.func77 rfl rfl rfl (by kernel_rfl) (HSat_args (vn_one (by simp [r0.one, r1.one])) (Nat.le_refl _) ⟨⟨⟨fun _ => rfl, by decide, r0⟩, (Nat.le_of_ble_eq_true rfl)⟩, ⟨⟨fun _ => rfl, by decide, r1⟩, (Nat.le_of_ble_eq_true rfl)⟩, trivial⟩) (vsOk (by kernel_rfl)) ?_
  have hl0 := Reads.len r0
  have hl1 := Reads.len r1
  refine WP_seq (WP_region (WPO_all tt_ok (by kernel_rfl) ?_))
  refine WP_seq (WP_region (WPO_all tt_ok (by kernel_rfl) ?_))
  refine WP_seq (WP_seq (WP_region (WPO_all tt_ok (by kernel_rfl) ?_)))
  refine WP_loopA (ρ := Bool) (keptLoadsF_c1 a b) (keptLoadsF_b1 a b) a.length ((a.length : Int) == (b.length : Int)) (fun k : Nat => (k : Int)) (fun (ci : Int) (zz : Bool) => ⟨31, [(6, [], .s (.int .i64 ci)), (5, [], .s (.bool zz)), (0, [], .s (.ref 0)), (1, [], .s (.ref 1))], [(0, .sl .ro 61 3 a encLoad zLoad), (1, .sl .ro 61 3 b encLoad zLoad)], 2, []⟩) (fun zz : Bool => ⟨31, [(5, [], .s (.bool zz))], [(0, .sl .ro 61 3 a encLoad zLoad), (1, .sl .ro 61 3 b encLoad zLoad)], 2, []⟩) (fun (k1 : Nat) (zz : Bool) => zz = true → a.length = b.length) (fun h => by have := eq_of_beq h; omega) ⟨0, rfl, Le_sel (ts := [6, 5, 0, 1]) (ids := [0, 1]) (nx := 2) (by kernel_rfl)⟩ ?_ ?_
  · intro k1 v1_1 hn1 hp1 hi1 Q1 hq1 ho1
    replace hp1 : v1_1 = true → a.length = b.length := hp1
    refine WP_seq (WP_seq (WP_region (WPO_all tt_ok (by kernel_rfl) ?_)))
    refine WP_cond (v1_1 && (decide ((k1 : Int) < (a.length : Int)))) (by kernel_rfl) (fun hc1 => ?_) (fun hc1 => ?_)
    rotate_left
    · refine WP_exit ?_
      show Q1 (.exit 0) _
      exact LA_exit hq1 v1_1 (loopR_end hi1 hc1) ⟨k1, hn1, hp1⟩ (Le_sel (ts := [5]) (ids := [0, 1]) (nx := 2) (by kernel_rfl))
    have hc1' := hc1; try simp only [Bool.and_eq_true, Bool.or_eq_true, Bool.and_eq_false_iff, Bool.or_eq_false_iff, Bool.not_eq_true', Bool.not_eq_false', decide_eq_true_eq, decide_eq_false_iff_not, beq_iff_eq, beq_eq_false_iff_ne, bne_iff_ne, bne_eq_false_iff_eq, ne_eq] at hc1'
    have hk1 : k1 < a.length := by omega
    have hab := hp1 hc1'.1
    refine WP_skip ?_
    refine WP_seq (WP_block ?_)
    refine WP_draw (by kernel_rfl) (by kernel_rfl) ?_
    refine WPQ_run tt_ok 2 (by kernel_rfl) ?_
    refine QIX tt_ok (k1 : Int) a.length [] (by kernel_rfl) (fun hG => ⟨by omega, by omega⟩) ?_
    refine WPQ_run tt_ok 3 (by kernel_rfl) ?_
    refine QIX tt_ok (k1 : Int) b.length [] (by kernel_rfl) (fun hG => ⟨by omega, by omega⟩) ?_
    refine WPQ_run tt_ok 1 (by kernel_rfl) ?_
    refine QBIN .eql 61 (.tmp 24) (.tmp 28) (.g [.int .i64 (a.getD k1 zLoad).w.lo, .int .i64 (a.getD k1 zLoad).w.hi, .int .i64 (a.getD k1 zLoad).lanes]) (.g [.int .i64 (b.getD k1 zLoad).w.lo, .int .i64 (b.getD k1 zLoad).w.hi, .int .i64 (b.getD k1 zLoad).lanes]) (.s (.bool ([(a.getD k1 zLoad).w.lo, (a.getD k1 zLoad).w.hi, (a.getD k1 zLoad).lanes] == [(b.getD k1 zLoad).w.lo, (b.getD k1 zLoad).w.hi, (b.getD k1 zLoad).lanes]))) [] (by kernel_rfl) (by kernel_rfl) (by kernel_rfl) (fun _ => (BinOk_st (n := 3) (by kernel_rfl) [(a.getD k1 zLoad).w.lo, (a.getD k1 zLoad).w.hi, (a.getD k1 zLoad).lanes] [(b.getD k1 zLoad).w.lo, (b.getD k1 zLoad).w.hi, (b.getD k1 zLoad).lanes] rfl rfl).1) ?_
    refine WPQ_all tt_ok (by kernel_rfl) ?_
    refine WP_region (WPO_all tt_ok (by kernel_rfl) ?_)
    show Q1 .normal _
    exact LA_go hq1 (ci := IntKind.i64.wrap ((k1 : Int) + 1)) ([(a.getD k1 zLoad).w.lo, (a.getD k1 zLoad).w.hi, (a.getD k1 zLoad).lanes] == [(b.getD k1 zLoad).w.lo, (b.getD k1 zLoad).w.hi, (b.getD k1 zLoad).lanes]) hk1 (by show _ = ((k1 + 1 : Nat) : Int); rw [wrapI (by omega) (by omega)]; omega) (loopR_go hi1 hk1 hc1 (rfl)) (fun _ => hp1 hc1'.1) (Le_sel (ts := [6, 5, 0, 1]) (ids := [0, 1]) (nx := 2) (by kernel_rfl))
  intro u1_0 hR1 hP1 s' hl
  obtain ⟨kP1, hkP1, hpP1⟩ := hP1
  replace hpP1 : u1_0 = true → a.length = b.length := hpP1
  refine WP_le hl ?_
  clear hl s'
  refine WP_seq (WP_region (WPO_all tt_ok (by kernel_rfl) ?_))
  refine WP_ret ?_
  exact ⟨.s (.bool u1_0), by kernel_rfl, fun nV w' h => ⟨by rw [show keptLoadsF a b = u1_0 from by unfold keptLoadsF; simp only [hR1, cond_true, cond_false]]; rfl, h.bel⟩⟩
def keptDeckF (b : DBook) (c : DBook) : Bool :=
  ((keptLoadsF b.loads c.loads) && (b.rule == c.rule)) && (b.most == c.most)
theorem keptDeckF_calls (g0 g1 : Value) (b : DBook) (c : DBook) (w : World) (r0 : Reads w g0 3 b.loads encLoad zLoad) (r1 : Reads w g1 3 c.loads encLoad zLoad)  : Calls Tryd.prog 19 #[.agg #[g0, iv b.rule, iv b.most], .agg #[g1, iv c.rule, iv c.most]] w fun e w' => e = .returned (.bool (keptDeckF b c)) ∧ Below w.heap.size w w' := by
  refine calls_of_WP (cx := cx0 w (vn [g0, g1]) 2) (n := vn [g0, g1]) (vs := [.g [.ref 0, .int .i64 b.rule, .int .i64 b.most], .g [.ref 1, .int .i64 c.rule, .int .i64 c.most]]) (hp := [(0, .sl .ro 61 3 b.loads encLoad zLoad), (1, .sl .ro 61 3 c.loads encLoad zLoad)]) (nx := 2) tt_ok Tryd.func19 rfl rfl rfl (by kernel_rfl) (HSat_args (vn_one (by simp [r0.one, r1.one])) (Nat.le_refl _) ⟨⟨⟨fun _ => rfl, by decide, r0⟩, (Nat.le_of_ble_eq_true rfl)⟩, ⟨⟨fun _ => rfl, by decide, r1⟩, (Nat.le_of_ble_eq_true rfl)⟩, trivial⟩) (vsOk (by kernel_rfl)) ?_
  have hl0 := Reads.len r0
  have hl1 := Reads.len r1
  refine WP_seq (WP_region (WPO_all tt_ok (by kernel_rfl) ?_))
  refine WP_seq (WP_region (WPO_run tt_ok 4 (by kernel_rfl) ?_))
  refine CALL 77 [.s (.ref 0), .s (.ref 1)] (.s (.bool (keptLoadsF b.loads c.loads))) [] (by kernel_rfl) (goes_of (by kernel_rfl)) (by kernel_rfl) (by kernel_rfl) (fun _ nV w h => keptLoadsF_calls (nV 0) (nV 1) b.loads c.loads w (h.reads (id := 0) (kd := .ro) (e := 61) (by kernel_rfl)) (h.reads (id := 1) (kd := .ro) (e := 61) (by kernel_rfl)) ) ?_
  refine WPO_all tt_ok (by kernel_rfl) ?_
  refine WP_ret ?_
  exact ⟨.s (.bool (((keptLoadsF b.loads c.loads) && (b.rule == c.rule)) && (b.most == c.most))), by kernel_rfl, fun nV w' h => ⟨by rw [show keptDeckF b c = (((keptLoadsF b.loads c.loads) && (b.rule == c.rule)) && (b.most == c.most)) from rfl]; rfl, h.bel⟩⟩
def loadL (weight : Span) (lanes : Int) : Load :=
  (⟨weight, lanes⟩ : Load)
theorem loadL_calls  (weight : Span) (lanes : Int) (w : World)   : Calls Tryd.prog 42 #[.agg #[iv weight.lo, iv weight.hi], iv lanes] w fun e w' => e = .returned (.agg #[iv (loadL weight lanes).w.lo, iv (loadL weight lanes).w.hi, iv (loadL weight lanes).lanes]) ∧ Below w.heap.size w w' := by
  refine calls_of_WP (cx := cx0 w Eng.n0 0) (n := Eng.n0) (vs := [.g [.int .i64 weight.lo, .int .i64 weight.hi], .s (.int .i64 lanes)]) (hp := []) (nx := 0) tt_ok Tryd.func42 rfl rfl rfl (by kernel_rfl) (HSat0 _ _ _ _ _ _ (fun _ => rfl) (Nat.le_refl _)) (vsOk (by kernel_rfl)) ?_
  refine WP_seq (WP_region (WPO_all tt_ok (by kernel_rfl) ?_))
  refine WP_seq (WP_region (WPO_all tt_ok (by kernel_rfl) ?_))
  refine WP_ret ?_
  exact ⟨.g [.int .i64 weight.lo, .int .i64 weight.hi, .int .i64 lanes], by kernel_rfl, fun nV w' h => ⟨by rw [show loadL weight lanes = (⟨weight, lanes⟩ : Load) from rfl]; rfl, h.bel⟩⟩
def placeL (at_ : Int) (lane : Int) : Place :=
  (⟨at_, lane⟩ : Place)
theorem placeL_calls  (at_ : Int) (lane : Int) (w : World)   : Calls Tryd.prog 44 #[iv at_, iv lane] w fun e w' => e = .returned (.agg #[iv (placeL at_ lane).load, iv (placeL at_ lane).lane]) ∧ Below w.heap.size w w' := by
  refine calls_of_WP (cx := cx0 w Eng.n0 0) (n := Eng.n0) (vs := [.s (.int .i64 at_), .s (.int .i64 lane)]) (hp := []) (nx := 0) tt_ok Tryd.func44 rfl rfl rfl (by kernel_rfl) (HSat0 _ _ _ _ _ _ (fun _ => rfl) (Nat.le_refl _)) (vsOk (by kernel_rfl)) ?_
  refine WP_seq (WP_region (WPO_all tt_ok (by kernel_rfl) ?_))
  refine WP_seq (WP_region (WPO_all tt_ok (by kernel_rfl) ?_))
  refine WP_ret ?_
  exact ⟨.g [.int .i64 at_, .int .i64 lane], by kernel_rfl, fun nV w' h => ⟨by rw [show placeL at_ lane = (⟨at_, lane⟩ : Place) from rfl]; rfl, h.bel⟩⟩
def bookL (rule : Int) (most : Int) : DBook :=
  (⟨[(loadL (rangeF 10 12) 5), (loadL (rangeF 10 11) 5), (loadL (pointF 6) 7), (loadL (rangeF 20 22) 2)], rule, most⟩ : DBook)
theorem bookL_calls  (rule : Int) (most : Int) (w : World)   : Calls Tryd.prog 64 #[iv rule, iv most] w fun e w' => ∃ v0, e = .returned (.agg #[v0, iv (bookL rule most).rule, iv (bookL rule most).most]) ∧ Below w.heap.size w w' ∧ w'.ownsRow w.heap.size 61 3 v0 (bookL rule most).loads.length (flat (bookL rule most).loads encLoad) := by
  refine calls_of_WP (cx := cx0 w Eng.n0 0) (n := Eng.n0) (vs := [.s (.int .i64 rule), .s (.int .i64 most)]) (hp := []) (nx := 0) tt_ok Tryd.func64 rfl rfl rfl (by kernel_rfl) (HSat0 _ _ _ _ _ _ (fun _ => rfl) (Nat.le_refl _)) (vsOk (by kernel_rfl)) ?_
  refine WP_seq (WP_region (WPO_all tt_ok (by kernel_rfl) ?_))
  refine WP_seq (WP_region (CALL 40 [.s (.int .i64 10), .s (.int .i64 12)] (.g [.int .i64 (rangeF 10 12).lo, .int .i64 (rangeF 10 12).hi]) [] (by kernel_rfl) (goes_of (by kernel_rfl)) (by kernel_rfl) (by kernel_rfl) (fun _ nV w h => rangeF_calls  10 12 w  ) ?_))
  refine CALL 42 [.g [.int .i64 (rangeF 10 12).lo, .int .i64 (rangeF 10 12).hi], .s (.int .i64 5)] (.g [.int .i64 (loadL (rangeF 10 12) 5).w.lo, .int .i64 (loadL (rangeF 10 12) 5).w.hi, .int .i64 (loadL (rangeF 10 12) 5).lanes]) [] (by kernel_rfl) (goes_of (by kernel_rfl)) (by kernel_rfl) (by kernel_rfl) (fun _ nV w h => loadL_calls  (rangeF 10 12) 5 w  ) ?_
  refine CALL 40 [.s (.int .i64 10), .s (.int .i64 11)] (.g [.int .i64 (rangeF 10 11).lo, .int .i64 (rangeF 10 11).hi]) [] (by kernel_rfl) (goes_of (by kernel_rfl)) (by kernel_rfl) (by kernel_rfl) (fun _ nV w h => rangeF_calls  10 11 w  ) ?_
  refine CALL 42 [.g [.int .i64 (rangeF 10 11).lo, .int .i64 (rangeF 10 11).hi], .s (.int .i64 5)] (.g [.int .i64 (loadL (rangeF 10 11) 5).w.lo, .int .i64 (loadL (rangeF 10 11) 5).w.hi, .int .i64 (loadL (rangeF 10 11) 5).lanes]) [] (by kernel_rfl) (goes_of (by kernel_rfl)) (by kernel_rfl) (by kernel_rfl) (fun _ nV w h => loadL_calls  (rangeF 10 11) 5 w  ) ?_
  refine CALL 65 [.s (.int .i64 6)] (.g [.int .i64 (pointF 6).lo, .int .i64 (pointF 6).hi]) [] (by kernel_rfl) (goes_of (by kernel_rfl)) (by kernel_rfl) (by kernel_rfl) (fun _ nV w h => pointF_calls  6 w  ) ?_
  refine CALL 42 [.g [.int .i64 (pointF 6).lo, .int .i64 (pointF 6).hi], .s (.int .i64 7)] (.g [.int .i64 (loadL (pointF 6) 7).w.lo, .int .i64 (loadL (pointF 6) 7).w.hi, .int .i64 (loadL (pointF 6) 7).lanes]) [] (by kernel_rfl) (goes_of (by kernel_rfl)) (by kernel_rfl) (by kernel_rfl) (fun _ nV w h => loadL_calls  (pointF 6) 7 w  ) ?_
  refine CALL 40 [.s (.int .i64 20), .s (.int .i64 22)] (.g [.int .i64 (rangeF 20 22).lo, .int .i64 (rangeF 20 22).hi]) [] (by kernel_rfl) (goes_of (by kernel_rfl)) (by kernel_rfl) (by kernel_rfl) (fun _ nV w h => rangeF_calls  20 22 w  ) ?_
  refine CALL 42 [.g [.int .i64 (rangeF 20 22).lo, .int .i64 (rangeF 20 22).hi], .s (.int .i64 2)] (.g [.int .i64 (loadL (rangeF 20 22) 2).w.lo, .int .i64 (loadL (rangeF 20 22) 2).w.hi, .int .i64 (loadL (rangeF 20 22) 2).lanes]) [] (by kernel_rfl) (goes_of (by kernel_rfl)) (by kernel_rfl) (by kernel_rfl) (fun _ nV w h => loadL_calls  (rangeF 20 22) 2 w  ) ?_
  refine LIT tt_ok (by kernel_rfl) ?_
  refine LITSL 1 61 4 3 [.int .i64 (loadL (rangeF 10 12) 5).w.lo, .int .i64 (loadL (rangeF 10 12) 5).w.hi, .int .i64 (loadL (rangeF 10 12) 5).lanes, .int .i64 (loadL (rangeF 10 11) 5).w.lo, .int .i64 (loadL (rangeF 10 11) 5).w.hi, .int .i64 (loadL (rangeF 10 11) 5).lanes, .int .i64 (loadL (pointF 6) 7).w.lo, .int .i64 (loadL (pointF 6) 7).w.hi, .int .i64 (loadL (pointF 6) 7).lanes, .int .i64 (loadL (rangeF 20 22) 2).w.lo, .int .i64 (loadL (rangeF 20 22) 2).w.hi, .int .i64 (loadL (rangeF 20 22) 2).lanes] [(loadL (rangeF 10 12) 5), (loadL (rangeF 10 11) 5), (loadL (pointF 6) 7), (loadL (rangeF 20 22) 2)] encLoad zLoad (by kernel_rfl) rfl (fun _ => rfl) (fun n => rfl) ?_
  refine WPO_all tt_ok (by kernel_rfl) ?_
  refine WP_ret ?_
  exact ⟨.g [.ref 1, .int .i64 rule, .int .i64 most], by kernel_rfl, fun nV w' h => ⟨nV 1, by rw [show bookL rule most = (⟨[(loadL (rangeF 10 12) 5), (loadL (rangeF 10 11) 5), (loadL (pointF 6) 7), (loadL (rangeF 20 22) 2)], rule, most⟩ : DBook) from rfl]; rfl, h.bel, by rw [show bookL rule most = (⟨[(loadL (rangeF 10 12) 5), (loadL (rangeF 10 11) 5), (loadL (pointF 6) 7), (loadL (rangeF 20 22) 2)], rule, most⟩ : DBook) from rfl]; exact own_of (z := zLoad) h (by kernel_rfl)⟩⟩
def ownL  : DBook :=
  (bookL 12 40)
theorem ownL_calls   (w : World)   : Calls Tryd.prog 63 #[] w fun e w' => ∃ v0, e = .returned (.agg #[v0, iv ownL.rule, iv ownL.most]) ∧ Below w.heap.size w w' ∧ w'.ownsRow w.heap.size 61 3 v0 ownL.loads.length (flat ownL.loads encLoad) := by
  refine calls_of_WP (cx := cx0 w Eng.n0 0) (n := Eng.n0) (vs := []) (hp := []) (nx := 0) tt_ok Tryd.func63 rfl rfl rfl (by kernel_rfl) (HSat0 _ _ _ _ _ _ (fun _ => rfl) (Nat.le_refl _)) (vsOk (by kernel_rfl)) ?_
  refine WP_seq (WP_region (WPO_all tt_ok (by kernel_rfl) ?_))
  refine WP_seq (WP_region (CALLO 64 [.s (.int .i64 12), .s (.int .i64 40)] (.g [.ref 1, .int .i64 (bookL 12 40).rule, .int .i64 (bookL 12 40).most]) 61 3 (bookL 12 40).loads encLoad zLoad 1 (by kernel_rfl) (by kernel_rfl) (goes_of (by kernel_rfl)) (by kernel_rfl) (by kernel_rfl) (fun _ => rfl) ((fun nV w h => bookL_calls  12 40 w  )) ?_))
  refine WPO_all tt_ok (by kernel_rfl) ?_
  refine WP_ret ?_
  exact ⟨.g [.ref 1, .int .i64 (bookL 12 40).rule, .int .i64 (bookL 12 40).most], by kernel_rfl, fun nV w' h => ⟨nV 1, by rw [show ownL = (bookL 12 40) from rfl]; rfl, h.bel, by rw [show ownL = (bookL 12 40) from rfl]; exact own_of (z := zLoad) h (by kernel_rfl)⟩⟩
def strictL  : DBook :=
  (bookL 11 40)
theorem strictL_calls   (w : World)   : Calls Tryd.prog 67 #[] w fun e w' => ∃ v0, e = .returned (.agg #[v0, iv strictL.rule, iv strictL.most]) ∧ Below w.heap.size w w' ∧ w'.ownsRow w.heap.size 61 3 v0 strictL.loads.length (flat strictL.loads encLoad) := by
  refine calls_of_WP (cx := cx0 w Eng.n0 0) (n := Eng.n0) (vs := []) (hp := []) (nx := 0) tt_ok Tryd.func67 rfl rfl rfl (by kernel_rfl) (HSat0 _ _ _ _ _ _ (fun _ => rfl) (Nat.le_refl _)) (vsOk (by kernel_rfl)) ?_
  refine WP_seq (WP_region (WPO_all tt_ok (by kernel_rfl) ?_))
  refine WP_seq (WP_region (CALLO 64 [.s (.int .i64 11), .s (.int .i64 40)] (.g [.ref 1, .int .i64 (bookL 11 40).rule, .int .i64 (bookL 11 40).most]) 61 3 (bookL 11 40).loads encLoad zLoad 1 (by kernel_rfl) (by kernel_rfl) (goes_of (by kernel_rfl)) (by kernel_rfl) (by kernel_rfl) (fun _ => rfl) ((fun nV w h => bookL_calls  11 40 w  )) ?_))
  refine WPO_all tt_ok (by kernel_rfl) ?_
  refine WP_ret ?_
  exact ⟨.g [.ref 1, .int .i64 (bookL 11 40).rule, .int .i64 (bookL 11 40).most], by kernel_rfl, fun nV w' h => ⟨nV 1, by rw [show strictL = (bookL 11 40) from rfl]; rfl, h.bel, by rw [show strictL = (bookL 11 40) from rfl]; exact own_of (z := zLoad) h (by kernel_rfl)⟩⟩
def lightL  : DBook :=
  (bookL 12 28)
theorem lightL_calls   (w : World)   : Calls Tryd.prog 71 #[] w fun e w' => ∃ v0, e = .returned (.agg #[v0, iv lightL.rule, iv lightL.most]) ∧ Below w.heap.size w w' ∧ w'.ownsRow w.heap.size 61 3 v0 lightL.loads.length (flat lightL.loads encLoad) := by
  refine calls_of_WP (cx := cx0 w Eng.n0 0) (n := Eng.n0) (vs := []) (hp := []) (nx := 0) tt_ok Tryd.func71 rfl rfl rfl (by kernel_rfl) (HSat0 _ _ _ _ _ _ (fun _ => rfl) (Nat.le_refl _)) (vsOk (by kernel_rfl)) ?_
  refine WP_seq (WP_region (WPO_all tt_ok (by kernel_rfl) ?_))
  refine WP_seq (WP_region (CALLO 64 [.s (.int .i64 12), .s (.int .i64 28)] (.g [.ref 1, .int .i64 (bookL 12 28).rule, .int .i64 (bookL 12 28).most]) 61 3 (bookL 12 28).loads encLoad zLoad 1 (by kernel_rfl) (by kernel_rfl) (goes_of (by kernel_rfl)) (by kernel_rfl) (by kernel_rfl) (fun _ => rfl) ((fun nV w h => bookL_calls  12 28 w  )) ?_))
  refine WPO_all tt_ok (by kernel_rfl) ?_
  refine WP_ret ?_
  exact ⟨.g [.ref 1, .int .i64 (bookL 12 28).rule, .int .i64 (bookL 12 28).most], by kernel_rfl, fun nV w' h => ⟨nV 1, by rw [show lightL = (bookL 12 28) from rfl]; rfl, h.bel, by rw [show lightL = (bookL 12 28) from rfl]; exact own_of (z := zLoad) h (by kernel_rfl)⟩⟩
def wideL  : DBook :=
  (⟨ownL.loads ++ ([(loadL (pointF 30) 1)]), ownL.rule, ownL.most⟩ : DBook)
theorem wideL_calls   (w : World)   : Calls Tryd.prog 69 #[] w fun e w' => ∃ v0, e = .returned (.agg #[v0, iv wideL.rule, iv wideL.most]) ∧ Below w.heap.size w w' ∧ w'.ownsRow w.heap.size 61 3 v0 wideL.loads.length (flat wideL.loads encLoad) := by
  refine calls_of_WP (cx := cx0 w Eng.n0 0) (n := Eng.n0) (vs := []) (hp := []) (nx := 0) tt_ok Tryd.func69 rfl rfl rfl (by kernel_rfl) (HSat0 _ _ _ _ _ _ (fun _ => rfl) (Nat.le_refl _)) (vsOk (by kernel_rfl)) ?_
  have hol : ownL.loads.length = 4 := rfl
  refine WP_seq (WP_region (WPO_all tt_ok (by kernel_rfl) ?_))
  refine WP_seq (WP_region (CALLO 63 [] (.g [.ref 1, .int .i64 ownL.rule, .int .i64 ownL.most]) 61 3 ownL.loads encLoad zLoad 1 (by kernel_rfl) (by kernel_rfl) (goes_of (by kernel_rfl)) (by kernel_rfl) (by kernel_rfl) (fun _ => rfl) ((fun nV w h => ownL_calls   w  )) ?_))
  refine WPO_all tt_ok (by kernel_rfl) ?_
  refine WP_seq (WP_drawHM 7 [1] [2] (by kernel_rfl) (by kernel_rfl) ?_)
  refine H_run tt_ok [0, 1] (f' := 5) (by kernel_rfl) (by kernel_rfl) (by kernel_rfl) ?_
  refine H_step 2 (by kernel_rfl) (by kernel_rfl) (fun hfz cx' hx1 hx2 => ?_)
  refine CALL 65 [.s (.int .i64 30)] (.g [.int .i64 (pointF 30).lo, .int .i64 (pointF 30).hi]) [] (by kernel_rfl) (goes_of (by kernel_rfl)) (by kernel_rfl) (by kernel_rfl) (fun _ nV w h => pointF_calls  30 w  ) ?_
  refine WPO_end (by kernel_rfl) ⟨rfl, (hfz.fnds [2, 0] (by kernel_rfl) ⟨by kernel_rfl, by kernel_rfl, trivial⟩ (by kernel_rfl)), ?_⟩
  refine H_step 3 (by kernel_rfl) (by kernel_rfl) (fun hfz cx' hx1 hx2 => ?_)
  refine CALL 42 [.g [.int .i64 (pointF 30).lo, .int .i64 (pointF 30).hi], .s (.int .i64 1)] (.g [.int .i64 (loadL (pointF 30) 1).w.lo, .int .i64 (loadL (pointF 30) 1).w.hi, .int .i64 (loadL (pointF 30) 1).lanes]) [] (by kernel_rfl) (goes_of (by kernel_rfl)) (by kernel_rfl) (by kernel_rfl) (fun _ nV w h => loadL_calls  (pointF 30) 1 w  ) ?_
  refine WPO_end (by kernel_rfl) ⟨rfl, (hfz.fnds [2, 0] (by kernel_rfl) ⟨by kernel_rfl, by kernel_rfl, trivial⟩ (by kernel_rfl)), ?_⟩
  refine H_step 4 (by kernel_rfl) (by kernel_rfl) (fun hfz cx' hx1 hx2 => ?_)
  refine LIT tt_ok (by kernel_rfl) ?_
  refine LITSL 3 61 1 3 [.int .i64 (loadL (pointF 30) 1).w.lo, .int .i64 (loadL (pointF 30) 1).w.hi, .int .i64 (loadL (pointF 30) 1).lanes] [(loadL (pointF 30) 1)] encLoad zLoad (by kernel_rfl) rfl (fun _ => rfl) (fun n => rfl) ?_
  refine WPO_end (by kernel_rfl) ⟨rfl, (hfz.fnds [2, 0] (by kernel_rfl) ⟨by kernel_rfl, by kernel_rfl, trivial⟩ (by kernel_rfl)), ?_⟩
  refine H_step 5 (by kernel_rfl) (by kernel_rfl) (fun hfz cx' hx1 hx2 => ?_)
  refine APP tt_ok (.s (.ref 1)) (.s (.ref 3)) 22 61 (some 8) 3 ownL.loads ([(loadL (pointF 30) 1)]) encLoad zLoad (by kernel_rfl) (by kernel_rfl) (by kernel_rfl) (by kernel_rfl) (.inr (.inl ⟨1, rfl, (by kernel_rfl)⟩)) (.inr ⟨3, .own, rfl, (by kernel_rfl), (by simp only [List.length_cons, List.length_nil]; omega)⟩) (by simp) (fun y => rfl) (fun y => List.all_eq_true.1 rfl) (fun i hi => (by have hby : (tyL tt 61).map (·.bytes) = some 24 := (by kernel_rfl); rw [hi] at hby; simp only [Option.map_some, Option.some.injEq] at hby; rw [hby]; simp only [List.length_append, List.length_cons, List.length_nil]; omega)) ?_
  refine WPO_end (by kernel_rfl) ⟨rfl, (hfz.fnds [2, 0] (by kernel_rfl) ⟨by kernel_rfl, by kernel_rfl, trivial⟩ (by kernel_rfl)), ?_⟩
  refine H_run tt_ok [6] (f' := 0) (by kernel_rfl) (by kernel_rfl) (by kernel_rfl) ?_
  refine H_done (by kernel_rfl) ?_
  refine ⟨(by kernel_rfl), ?_⟩
  refine H_step 7 (by kernel_rfl) (by kernel_rfl) (fun hfz cx' hx1 hx2 => ?_)
  refine WPO_all tt_ok (by kernel_rfl) ?_
  refine ⟨rfl, (hfz.fnds [4, 3, 0] (by kernel_rfl) ⟨by kernel_rfl, by kernel_rfl, by kernel_rfl, trivial⟩ (by kernel_rfl)), ?_⟩
  refine H_done (by kernel_rfl) ?_
  refine WP_seq (WP_region (WPO_all tt_ok (by kernel_rfl) ?_))
  refine WP_ret ?_
  exact ⟨.g [.ref 4, .int .i64 ownL.rule, .int .i64 ownL.most], by kernel_rfl, fun nV w' h => ⟨nV 4, by rw [show wideL = (⟨ownL.loads ++ ([(loadL (pointF 30) 1)]), ownL.rule, ownL.most⟩ : DBook) from rfl]; rfl, h.bel, by rw [show wideL = (⟨ownL.loads ++ ([(loadL (pointF 30) 1)]), ownL.rule, ownL.most⟩ : DBook) from rfl]; exact own_of (z := zLoad) h (by kernel_rfl)⟩⟩
def bothL  : (List Place) :=
  [(placeL 0 0), (placeL 1 2)]
theorem bothL_calls   (w : World)   : Calls Tryd.prog 68 #[] w fun e w' => ∃ v0, e = .returned (v0) ∧ Below w.heap.size w w' ∧ w'.ownsRow w.heap.size 65 2 v0 bothL.length (flat bothL encPlace) := by
  refine calls_of_WP (cx := cx0 w Eng.n0 0) (n := Eng.n0) (vs := []) (hp := []) (nx := 0) tt_ok Tryd.func68 rfl rfl rfl (by kernel_rfl) (HSat0 _ _ _ _ _ _ (fun _ => rfl) (Nat.le_refl _)) (vsOk (by kernel_rfl)) ?_
  refine WP_seq (WP_region (WPO_all tt_ok (by kernel_rfl) ?_))
  refine WP_seq (WP_region (CALL 44 [.s (.int .i64 0), .s (.int .i64 0)] (.g [.int .i64 (placeL 0 0).load, .int .i64 (placeL 0 0).lane]) [] (by kernel_rfl) (goes_of (by kernel_rfl)) (by kernel_rfl) (by kernel_rfl) (fun _ nV w h => placeL_calls  0 0 w  ) ?_))
  refine CALL 44 [.s (.int .i64 1), .s (.int .i64 2)] (.g [.int .i64 (placeL 1 2).load, .int .i64 (placeL 1 2).lane]) [] (by kernel_rfl) (goes_of (by kernel_rfl)) (by kernel_rfl) (by kernel_rfl) (fun _ nV w h => placeL_calls  1 2 w  ) ?_
  refine LIT tt_ok (by kernel_rfl) ?_
  refine LITSL 0 65 2 2 [.int .i64 (placeL 0 0).load, .int .i64 (placeL 0 0).lane, .int .i64 (placeL 1 2).load, .int .i64 (placeL 1 2).lane] [(placeL 0 0), (placeL 1 2)] encPlace zPlace (by kernel_rfl) rfl (fun _ => rfl) (fun n => rfl) ?_
  refine WPO_all tt_ok (by kernel_rfl) ?_
  refine WP_ret ?_
  exact ⟨.s (.ref 0), by kernel_rfl, fun nV w' h => ⟨nV 0, rfl, h.bel, by rw [show bothL = ([(placeL 0 0), (placeL 1 2)]) from rfl]; exact own_of (z := zPlace) h (by kernel_rfl)⟩⟩
def sameL_c1 (l : List Place) (m : List Place) (k1 : Nat) : Unit → Bool := fun _ => decide ((k1 : Int) < (l.length : Int))
def sameL_b1 (l : List Place) (m : List Place) (k1 : Nat) : Unit → Bd Unit Bool := fun _ => (bif !((l.getD k1 zPlace).load == (m.getD k1 zPlace).load && (l.getD k1 zPlace).lane == (m.getD k1 zPlace).lane) then .ret false else .go ())
def sameL (l : List Place) (m : List Place) : Bool :=
  (bif (l.length : Int) != (m.length : Int) then false else (match loopR (sameL_c1 l m) (sameL_b1 l m) l.length 0 () with | .brk () => true | .ret r => r))
theorem sameL_calls (g0 g1 : Value) (l : List Place) (m : List Place) (w : World) (r0 : Reads w g0 2 l encPlace zPlace) (r1 : Reads w g1 2 m encPlace zPlace)  : Calls Tryd.prog 70 #[g0, g1] w fun e w' => e = .returned (.bool (sameL l m)) ∧ Below w.heap.size w w' := by
  refine calls_of_WP (cx := cx0 w (vn [g0, g1]) 2) (n := vn [g0, g1]) (vs := [.s (.ref 0), .s (.ref 1)]) (hp := [(0, .sl .ro 65 2 l encPlace zPlace), (1, .sl .ro 65 2 m encPlace zPlace)]) (nx := 2) tt_ok Tryd.func70 rfl rfl rfl (by kernel_rfl) (HSat_args (vn_one (by simp [r0.one, r1.one])) (Nat.le_refl _) ⟨⟨⟨fun _ => rfl, by decide, r0⟩, (Nat.le_of_ble_eq_true rfl)⟩, ⟨⟨fun _ => rfl, by decide, r1⟩, (Nat.le_of_ble_eq_true rfl)⟩, trivial⟩) (vsOk (by kernel_rfl)) ?_
  have hl0 := Reads.len r0
  have hl1 := Reads.len r1
  refine WP_seq (WP_region (WPO_all tt_ok (by kernel_rfl) ?_))
  refine WP_seq (WP_seq (WP_region (WPO_all tt_ok (by kernel_rfl) ?_)))
  refine WP_cond ((l.length : Int) != (m.length : Int)) (by kernel_rfl) (fun hc2 => ?_) (fun hc2 => ?_)
  · have hc2' := hc2; try simp only [Bool.and_eq_true, Bool.or_eq_true, Bool.and_eq_false_iff, Bool.or_eq_false_iff, Bool.not_eq_true', Bool.not_eq_false', decide_eq_true_eq, decide_eq_false_iff_not, beq_iff_eq, beq_eq_false_iff_ne, bne_iff_ne, bne_eq_false_iff_eq, ne_eq] at hc2'
    refine WP_seq (WP_region (WPO_all tt_ok (by kernel_rfl) ?_))
    refine WP_ret ?_
    exact ⟨.s (.bool false), by kernel_rfl, fun nV w' h => ⟨by rw [show sameL l m = false from by unfold sameL; simp only [hc2, cond_true, cond_false]]; rfl, h.bel⟩⟩
  have hc2' := hc2; try simp only [Bool.and_eq_true, Bool.or_eq_true, Bool.and_eq_false_iff, Bool.or_eq_false_iff, Bool.not_eq_true', Bool.not_eq_false', decide_eq_true_eq, decide_eq_false_iff_not, beq_iff_eq, beq_eq_false_iff_ne, bne_iff_ne, bne_eq_false_iff_eq, ne_eq] at hc2'
  refine WP_skip ?_
  refine WP_seq (WP_seq (WP_region (WPO_all tt_ok (by kernel_rfl) ?_)))
  refine WP_loopA (ρ := Bool) (sameL_c1 l m) (sameL_b1 l m) l.length () (fun k : Nat => (k : Int)) (fun (ci : Int) (zz : Unit) => ⟨26, [(5, [], .s (.int .i64 ci)), (0, [], .s (.ref 0)), (1, [], .s (.ref 1))], [(0, .sl .ro 65 2 l encPlace zPlace), (1, .sl .ro 65 2 m encPlace zPlace)], 2, []⟩) (fun zz : Unit => ⟨26, [], [(0, .sl .ro 65 2 l encPlace zPlace), (1, .sl .ro 65 2 m encPlace zPlace)], 2, []⟩) (fun k zz => True) trivial ⟨0, rfl, Le_sel (ts := [5, 0, 1]) (ids := [0, 1]) (nx := 2) (by kernel_rfl)⟩ ?_ ?_
  · intro k1 zz hn1 hp1 hi1 Q1 hq1 ho1
    refine WP_seq (WP_seq (WP_region (WPO_all tt_ok (by kernel_rfl) ?_)))
    refine WP_cond (decide ((k1 : Int) < (l.length : Int))) (by kernel_rfl) (fun hc3 => ?_) (fun hc3 => ?_)
    rotate_left
    · refine WP_exit ?_
      show Q1 (.exit 0) _
      exact LA_exit hq1 () (loopR_end hi1 hc3) ⟨k1, hn1, hp1⟩ (Le_sel (ts := []) (ids := [0, 1]) (nx := 2) (by kernel_rfl))
    have hc3' := of_decide_eq_true hc3
    have hk1 : k1 < l.length := by omega
    refine WP_skip ?_
    refine WP_seq (WP_block ?_)
    refine WP_seq (WP_draw (by kernel_rfl) (by kernel_rfl) ?_)
    refine WPQ_run tt_ok 2 (by kernel_rfl) ?_
    refine QIX tt_ok (k1 : Int) l.length [] (by kernel_rfl) (fun hG => ⟨by omega, by omega⟩) ?_
    refine WPQ_run tt_ok 3 (by kernel_rfl) ?_
    refine QIX tt_ok (k1 : Int) m.length [] (by kernel_rfl) (fun hG => ⟨by omega, by omega⟩) ?_
    refine WPQ_run tt_ok 1 (by kernel_rfl) ?_
    refine QBIN .neq 65 (.tmp 20) (.tmp 24) (.g [.int .i64 (l.getD k1 zPlace).load, .int .i64 (l.getD k1 zPlace).lane]) (.g [.int .i64 (m.getD k1 zPlace).load, .int .i64 (m.getD k1 zPlace).lane]) (.s (.bool (!((l.getD k1 zPlace).load == (m.getD k1 zPlace).load && (l.getD k1 zPlace).lane == (m.getD k1 zPlace).lane)))) [] (by kernel_rfl) (by kernel_rfl) (by kernel_rfl) (fun _ => BinOk_pairN (by kernel_rfl) _ _ _ _) ?_
    refine WPQ_nil ?_
    refine WP_cond (!((l.getD k1 zPlace).load == (m.getD k1 zPlace).load && (l.getD k1 zPlace).lane == (m.getD k1 zPlace).lane)) (by kernel_rfl) (fun hc5 => ?_) (fun hc5 => ?_)
    · have hc5' := hc5; try simp only [Bool.and_eq_true, Bool.or_eq_true, Bool.and_eq_false_iff, Bool.or_eq_false_iff, Bool.not_eq_true', Bool.not_eq_false', decide_eq_true_eq, decide_eq_false_iff_not, beq_iff_eq, beq_eq_false_iff_ne, bne_iff_ne, bne_eq_false_iff_eq, ne_eq] at hc5'
      refine WP_seq (WP_region (WPO_all tt_ok (by kernel_rfl) ?_))
      refine WP_ret ?_
      show Q1 .ret _
      refine LA_ret hq1 ?_
      have he6 := loopR_ret (r := false) hi1 hk1 hc3 (by unfold sameL_b1; simp only [hc5, cond_true, cond_false])
      exact ⟨.s (.bool false), by kernel_rfl, fun nV w' h => ⟨by rw [show sameL l m = false from by unfold sameL; simp only [hc2, he6, cond_true, cond_false]]; rfl, h.bel⟩⟩
    have hc5' := hc5; try simp only [Bool.and_eq_true, Bool.or_eq_true, Bool.and_eq_false_iff, Bool.or_eq_false_iff, Bool.not_eq_true', Bool.not_eq_false', decide_eq_true_eq, decide_eq_false_iff_not, beq_iff_eq, beq_eq_false_iff_ne, bne_iff_ne, bne_eq_false_iff_eq, ne_eq] at hc5'
    refine WP_skip ?_
    refine WP_region (WPO_all tt_ok (by kernel_rfl) ?_)
    show Q1 .normal _
    exact LA_go hq1 (ci := IntKind.i64.wrap ((k1 : Int) + 1)) () hk1 (by show _ = ((k1 + 1 : Nat) : Int); rw [wrapI (by omega) (by omega)]; omega) (loopR_go hi1 hk1 hc3 (by unfold sameL_b1; simp only [hc5, cond_true, cond_false])) trivial (Le_sel (ts := [5, 0, 1]) (ids := [0, 1]) (nx := 2) (by kernel_rfl))
  intro zz hR1 hP1 s' hl
  refine WP_le hl ?_
  clear hl s'
  refine WP_seq (WP_region (WPO_all tt_ok (by kernel_rfl) ?_))
  refine WP_ret ?_
  exact ⟨.s (.bool true), by kernel_rfl, fun nV w' h => ⟨by rw [show sameL l m = true from by unfold sameL; simp only [hc2, hR1, cond_true, cond_false]]; rfl, h.bel⟩⟩
end Go.Proofs.YthfnedbpmdkdjaaDoor.D
namespace Go.Proofs.YthfnedbpmdkdjaaDoor.D
open Go Go.RowKit Go.Proofs.YthfnedbpmdkdjaaDoor.Eng Go.Proofs.YthfnedbpmdkdjaaDoor.Cm
set_option linter.unusedVariables false
set_option linter.unusedSimpArgs false
set_option linter.unusedSectionVars false
def stowedL  : Bool :=
  (bif ((((((((((listA ownL bothL).2 != 0) || ((levelA strictL ([(placeL 0 0)])).2 != 0)) || ((tiltsA ownL ([(placeL 0 0), (placeL 1 0)])).2 != 0)) || ((stowA strictL ([0, 1])).2 != 0)) || ((mostA ownL).2 != 0)) || (!((listA ownL bothL).1.lo == (rangeF (-1) 2).lo && (listA ownL bothL).1.hi == (rangeF (-1) 2).hi))) || ((levelA strictL ([(placeL 0 0)])).1 != 1)) || ((tiltsA ownL ([(placeL 0 0), (placeL 1 0)])).1 != 1)) || (!(sameL (stowA strictL ([0, 1])).1 (bif (true && ((((((((((listA ownL bothL).2 != 0) || ((levelA strictL ([(placeL 0 0)])).2 != 0)) || ((tiltsA ownL ([(placeL 0 0), (placeL 1 0)])).2 != 0)) || ((stowA strictL ([0, 1])).2 != 0)) || ((mostA ownL).2 != 0)) || (!((listA ownL bothL).1.lo == (rangeF (-1) 2).lo && (listA ownL bothL).1.hi == (rangeF (-1) 2).hi))) || ((levelA strictL ([(placeL 0 0)])).1 != 1)) || ((tiltsA ownL ([(placeL 0 0), (placeL 1 0)])).1 != 1)) == false)) then [(placeL 1 0), (placeL 0 2)] else [])))) || (!(alikeF (mostA ownL).1 (bif (true && (((((((((((listA ownL bothL).2 != 0) || ((levelA strictL ([(placeL 0 0)])).2 != 0)) || ((tiltsA ownL ([(placeL 0 0), (placeL 1 0)])).2 != 0)) || ((stowA strictL ([0, 1])).2 != 0)) || ((mostA ownL).2 != 0)) || (!((listA ownL bothL).1.lo == (rangeF (-1) 2).lo && (listA ownL bothL).1.hi == (rangeF (-1) 2).hi))) || ((levelA strictL ([(placeL 0 0)])).1 != 1)) || ((tiltsA ownL ([(placeL 0 0), (placeL 1 0)])).1 != 1)) || (!(sameL (stowA strictL ([0, 1])).1 (bif (true && ((((((((((listA ownL bothL).2 != 0) || ((levelA strictL ([(placeL 0 0)])).2 != 0)) || ((tiltsA ownL ([(placeL 0 0), (placeL 1 0)])).2 != 0)) || ((stowA strictL ([0, 1])).2 != 0)) || ((mostA ownL).2 != 0)) || (!((listA ownL bothL).1.lo == (rangeF (-1) 2).lo && (listA ownL bothL).1.hi == (rangeF (-1) 2).hi))) || ((levelA strictL ([(placeL 0 0)])).1 != 1)) || ((tiltsA ownL ([(placeL 0 0), (placeL 1 0)])).1 != 1)) == false)) then [(placeL 1 0), (placeL 0 2)] else [])))) == false)) then [0, 1, 2] else []))) then false else ((((((fewestA lightL).2 == 0) && ((neverA wideL).2 == 0)) && ((weighA ownL).2 == 0)) && (alikeF (fewestA lightL).1 (bif (true && (((((fewestA lightL).2 == 0) && ((neverA wideL).2 == 0)) && ((weighA ownL).2 == 0)) == true)) then [0, 0, 1, 1] else []))) && (alikeF (neverA wideL).1 (bif (true && ((((((fewestA lightL).2 == 0) && ((neverA wideL).2 == 0)) && ((weighA ownL).2 == 0)) && (alikeF (fewestA lightL).1 (bif (true && (((((fewestA lightL).2 == 0) && ((neverA wideL).2 == 0)) && ((weighA ownL).2 == 0)) == true)) then [0, 0, 1, 1] else []))) == true)) then [4] else []))) && ((weighA ownL).1 == 0))
theorem stowedL_calls   (w : World)  (hnb : NobodyAt w) (hla : LanesAt w) : Calls Tryd.prog 21 #[] w fun e w' => e = .returned (.bool stowedL) ∧ Below w.heap.size w w' := by
  refine calls_of_WP (cx := cx0 w Eng.n0 0) (n := Eng.n0) (vs := []) (hp := [(0, .pf NobodyAt (· = 1)), (1, .pf LanesAt (· = 0))]) (nx := 2) tt_ok Tryd.func21 rfl rfl rfl (by kernel_rfl) (HSat_args (fun _ => rfl) (by decide) ⟨⟨⟨hnb, fun w1 w2 h1 hw => (hw 1 rfl).trans h1, fun g hg => by cases hg; exact (Array.getElem?_eq_some_iff.1 hnb).1⟩, (Nat.le_of_ble_eq_true rfl)⟩, ⟨⟨hla, fun w1 w2 h1 hw => (hw 0 rfl).trans h1, fun g hg => by cases hg; exact (Array.getElem?_eq_some_iff.1 hla).1⟩, (Nat.le_of_ble_eq_true rfl)⟩, trivial⟩) (vsOk (by kernel_rfl)) ?_
  refine WP_seq (WP_region (WPO_all tt_ok (by kernel_rfl) ?_))
  refine WP_seq (WP_region (CALLO 63 [] (.g [.ref 2, .int .i64 ownL.rule, .int .i64 ownL.most]) 61 3 ownL.loads encLoad zLoad 2 (by kernel_rfl) (by kernel_rfl) (goes_of (by kernel_rfl)) (by kernel_rfl) (by kernel_rfl) (fun _ => rfl) ((fun nV w h => ownL_calls   w  )) ?_))
  refine CALLO 68 [] (.s (.ref 3)) 65 2 bothL encPlace zPlace 3 (by kernel_rfl) (by kernel_rfl) (goes_of (by kernel_rfl)) (by kernel_rfl) (by kernel_rfl) (fun _ => rfl) ((fun nV w h => bothL_calls   w  )) ?_
  refine CALL 30 [.g [.ref 2, .int .i64 ownL.rule, .int .i64 ownL.most], .s (.ref 3)] (.t [(true, [.int .i64 (listA ownL bothL).1.lo, .int .i64 (listA ownL bothL).1.hi]), (false, [.int .i64 (listA ownL bothL).2])]) [] (by kernel_rfl) (goes_of (by kernel_rfl)) (by kernel_rfl) (by kernel_rfl) (fun _ nV w h => listA_calls (nV 2) (nV 3) ownL bothL w (h.reads (id := 2) (kd := .own) (e := 61) (by kernel_rfl)) (h.reads (id := 3) (kd := .own) (e := 65) (by kernel_rfl)) (h.ents (0, .pf NobodyAt (· = 1)) (fnd_mem (by kernel_rfl))).1 (h.ents (1, .pf LanesAt (· = 0)) (fnd_mem (by kernel_rfl))).1 ) ?_
  refine WPO_all tt_ok (by kernel_rfl) ?_
  refine WP_seq (WP_region (CALLO 67 [] (.g [.ref 5, .int .i64 strictL.rule, .int .i64 strictL.most]) 61 3 strictL.loads encLoad zLoad 5 (by kernel_rfl) (by kernel_rfl) (goes_of (by kernel_rfl)) (by kernel_rfl) (by kernel_rfl) (fun _ => rfl) ((fun nV w h => strictL_calls   w  )) ?_))
  refine CALL 44 [.s (.int .i64 0), .s (.int .i64 0)] (.g [.int .i64 (placeL 0 0).load, .int .i64 (placeL 0 0).lane]) [] (by kernel_rfl) (goes_of (by kernel_rfl)) (by kernel_rfl) (by kernel_rfl) (fun _ nV w h => placeL_calls  0 0 w  ) ?_
  refine LIT tt_ok (by kernel_rfl) ?_
  refine LITSL 6 65 1 2 [.int .i64 (placeL 0 0).load, .int .i64 (placeL 0 0).lane] [(placeL 0 0)] encPlace zPlace (by kernel_rfl) rfl (fun _ => rfl) (fun n => rfl) ?_
  refine CALL 31 [.g [.ref 5, .int .i64 strictL.rule, .int .i64 strictL.most], .s (.ref 6)] (.t [(false, [.int .i64 (levelA strictL ([(placeL 0 0)])).1]), (false, [.int .i64 (levelA strictL ([(placeL 0 0)])).2])]) [] (by kernel_rfl) (goes_of (by kernel_rfl)) (by kernel_rfl) (by kernel_rfl) (fun _ nV w h => levelA_calls (nV 5) (nV 6) strictL ([(placeL 0 0)]) w (h.reads (id := 5) (kd := .own) (e := 61) (by kernel_rfl)) (h.reads (id := 6) (kd := .own) (e := 65) (by kernel_rfl)) (h.ents (0, .pf NobodyAt (· = 1)) (fnd_mem (by kernel_rfl))).1 (h.ents (1, .pf LanesAt (· = 0)) (fnd_mem (by kernel_rfl))).1 ) ?_
  refine WPO_all tt_ok (by kernel_rfl) ?_
  refine WP_seq (WP_region (CALLO 63 [] (.g [.ref 7, .int .i64 ownL.rule, .int .i64 ownL.most]) 61 3 ownL.loads encLoad zLoad 7 (by kernel_rfl) (by kernel_rfl) (goes_of (by kernel_rfl)) (by kernel_rfl) (by kernel_rfl) (fun _ => rfl) ((fun nV w h => ownL_calls   w  )) ?_))
  refine CALL 44 [.s (.int .i64 0), .s (.int .i64 0)] (.g [.int .i64 (placeL 0 0).load, .int .i64 (placeL 0 0).lane]) [] (by kernel_rfl) (goes_of (by kernel_rfl)) (by kernel_rfl) (by kernel_rfl) (fun _ nV w h => placeL_calls  0 0 w  ) ?_
  refine CALL 44 [.s (.int .i64 1), .s (.int .i64 0)] (.g [.int .i64 (placeL 1 0).load, .int .i64 (placeL 1 0).lane]) [] (by kernel_rfl) (goes_of (by kernel_rfl)) (by kernel_rfl) (by kernel_rfl) (fun _ nV w h => placeL_calls  1 0 w  ) ?_
  refine LIT tt_ok (by kernel_rfl) ?_
  refine LITSL 8 65 2 2 [.int .i64 (placeL 0 0).load, .int .i64 (placeL 0 0).lane, .int .i64 (placeL 1 0).load, .int .i64 (placeL 1 0).lane] [(placeL 0 0), (placeL 1 0)] encPlace zPlace (by kernel_rfl) rfl (fun _ => rfl) (fun n => rfl) ?_
  refine CALL 32 [.g [.ref 7, .int .i64 ownL.rule, .int .i64 ownL.most], .s (.ref 8)] (.t [(false, [.int .i64 (tiltsA ownL ([(placeL 0 0), (placeL 1 0)])).1]), (false, [.int .i64 (tiltsA ownL ([(placeL 0 0), (placeL 1 0)])).2])]) [] (by kernel_rfl) (goes_of (by kernel_rfl)) (by kernel_rfl) (by kernel_rfl) (fun _ nV w h => tiltsA_calls (nV 7) (nV 8) ownL ([(placeL 0 0), (placeL 1 0)]) w (h.reads (id := 7) (kd := .own) (e := 61) (by kernel_rfl)) (h.reads (id := 8) (kd := .own) (e := 65) (by kernel_rfl)) (h.ents (0, .pf NobodyAt (· = 1)) (fnd_mem (by kernel_rfl))).1 (h.ents (1, .pf LanesAt (· = 0)) (fnd_mem (by kernel_rfl))).1 ) ?_
  refine WPO_all tt_ok (by kernel_rfl) ?_
  refine WP_seq (WP_region (CALLO 67 [] (.g [.ref 9, .int .i64 strictL.rule, .int .i64 strictL.most]) 61 3 strictL.loads encLoad zLoad 9 (by kernel_rfl) (by kernel_rfl) (goes_of (by kernel_rfl)) (by kernel_rfl) (by kernel_rfl) (fun _ => rfl) ((fun nV w h => strictL_calls   w  )) ?_))
  refine LIT tt_ok (by kernel_rfl) ?_
  refine LITSL 10 3 2 1 [.int .i64 0, .int .i64 1] [0, 1] encI 0 (by kernel_rfl) rfl (fun _ => rfl) (fun n => rfl) ?_
  refine CALLR 36 [.g [.ref 9, .int .i64 strictL.rule, .int .i64 strictL.most], .s (.ref 10)] (.t [(false, [.ref 11]), (false, [.int .i64 (stowA strictL ([0, 1])).2])]) 65 2 (stowA strictL ([0, 1])).1 encPlace zPlace 11 (by kernel_rfl) (by kernel_rfl) (goes_of (by kernel_rfl)) (by kernel_rfl) (by kernel_rfl) (by decide) (fun _ => rfl) (fun nV w h => (stowA_calls (nV 9) (nV 10) strictL ([0, 1]) w (h.reads (id := 9) (kd := .own) (e := 61) (by kernel_rfl)) (h.reads (id := 10) (kd := .own) (e := 3) (by kernel_rfl)) (h.ents (0, .pf NobodyAt (· = 1)) (fnd_mem (by kernel_rfl))).1 (h.ents (1, .pf LanesAt (· = 0)) (fnd_mem (by kernel_rfl))).1 ).mono fun e w' h1 => weak_fresh h1) ?_
  refine WPO_all tt_ok (by kernel_rfl) ?_
  refine WP_seq (WP_region (CALLO 63 [] (.g [.ref 12, .int .i64 ownL.rule, .int .i64 ownL.most]) 61 3 ownL.loads encLoad zLoad 12 (by kernel_rfl) (by kernel_rfl) (goes_of (by kernel_rfl)) (by kernel_rfl) (by kernel_rfl) (fun _ => rfl) ((fun nV w h => ownL_calls   w  )) ?_))
  refine CALLR 45 [.g [.ref 12, .int .i64 ownL.rule, .int .i64 ownL.most]] (.t [(false, [.ref 13]), (false, [.int .i64 (mostA ownL).2])]) 3 1 (mostA ownL).1 encI 0 13 (by kernel_rfl) (by kernel_rfl) (goes_of (by kernel_rfl)) (by kernel_rfl) (by kernel_rfl) (by decide) (fun _ => rfl) (fun nV w h => (mostA_calls (nV 12) ownL w (h.reads (id := 12) (kd := .own) (e := 61) (by kernel_rfl)) (h.ents (0, .pf NobodyAt (· = 1)) (fnd_mem (by kernel_rfl))).1 (h.ents (1, .pf LanesAt (· = 0)) (fnd_mem (by kernel_rfl))).1 ).mono fun e w' h1 => weak_fresh h1) ?_
  refine WPO_all tt_ok (by kernel_rfl) ?_
  refine WP_seq (WP_seq (WP_drawH [] (by kernel_rfl) (by kernel_rfl) ?_))
  refine H_run tt_ok [0, 1, 2, 3, 4, 5, 6, 7, 8, 9, 10, 11, 12, 13, 14, 15, 16, 17, 18, 19] (f' := 25) (by kernel_rfl) (by kernel_rfl) (by kernel_rfl) ?_
  refine H_step 20 (by kernel_rfl) (by kernel_rfl) (fun hfz cx' hx1 hx2 => ?_)
  refine CALL 40 [.s (.int .i64 (-1)), .s (.int .i64 2)] (.g [.int .i64 (rangeF (-1) 2).lo, .int .i64 (rangeF (-1) 2).hi]) [((((((listA ownL bothL).2 != 0) || ((levelA strictL ([(placeL 0 0)])).2 != 0)) || ((tiltsA ownL ([(placeL 0 0), (placeL 1 0)])).2 != 0)) || ((stowA strictL ([0, 1])).2 != 0)) || ((mostA ownL).2 != 0), false)] (by kernel_rfl) (goes_of (by kernel_rfl)) (by kernel_rfl) (by kernel_rfl) (fun _ nV w h => rangeF_calls  (-1) 2 w  ) ?_
  refine WPO_end (by kernel_rfl) ⟨rfl, (hfz.fnds [13, 12, 11, 10, 9, 8, 7, 6, 5, 4, 3, 2, 0, 1] (by kernel_rfl) ⟨by kernel_rfl, by kernel_rfl, by kernel_rfl, by kernel_rfl, by kernel_rfl, by kernel_rfl, by kernel_rfl, by kernel_rfl, by kernel_rfl, by kernel_rfl, by kernel_rfl, by kernel_rfl, by kernel_rfl, by kernel_rfl, trivial⟩ (by kernel_rfl)), ?_⟩
  refine H_BIN 21 .neq 43 (.tmp 65) (.tmp 66) (.g [.int .i64 (listA ownL bothL).1.lo, .int .i64 (listA ownL bothL).1.hi]) (.g [.int .i64 (rangeF (-1) 2).lo, .int .i64 (rangeF (-1) 2).hi]) (.s (.bool (!((listA ownL bothL).1.lo == (rangeF (-1) 2).lo && (listA ownL bothL).1.hi == (rangeF (-1) 2).hi)))) [((((((listA ownL bothL).2 != 0) || ((levelA strictL ([(placeL 0 0)])).2 != 0)) || ((tiltsA ownL ([(placeL 0 0), (placeL 1 0)])).2 != 0)) || ((stowA strictL ([0, 1])).2 != 0)) || ((mostA ownL).2 != 0), false)] (by kernel_rfl) (by kernel_rfl) (by kernel_rfl) (fun _ _ => BinOk_pairN (by kernel_rfl) _ _ _ _) (by kernel_rfl) (by kernel_rfl) ?_
  refine H_run tt_ok [22, 23, 24, 25, 26, 27, 28, 29, 30, 31, 32] (f' := 12) (by kernel_rfl) (by kernel_rfl) (by kernel_rfl) ?_
  refine H_step 33 (by kernel_rfl) (by kernel_rfl) (fun hfz cx' hx1 hx2 => ?_)
  refine CALL 44 [.s (.int .i64 1), .s (.int .i64 0)] (.g [.int .i64 (placeL 1 0).load, .int .i64 (placeL 1 0).lane]) [(((((((((listA ownL bothL).2 != 0) || ((levelA strictL ([(placeL 0 0)])).2 != 0)) || ((tiltsA ownL ([(placeL 0 0), (placeL 1 0)])).2 != 0)) || ((stowA strictL ([0, 1])).2 != 0)) || ((mostA ownL).2 != 0)) || (!((listA ownL bothL).1.lo == (rangeF (-1) 2).lo && (listA ownL bothL).1.hi == (rangeF (-1) 2).hi))) || ((levelA strictL ([(placeL 0 0)])).1 != 1)) || ((tiltsA ownL ([(placeL 0 0), (placeL 1 0)])).1 != 1), false)] (by kernel_rfl) (goes_of (by kernel_rfl)) (by kernel_rfl) (by kernel_rfl) (fun _ nV w h => placeL_calls  1 0 w  ) ?_
  refine WPO_end (by kernel_rfl) ⟨rfl, (hfz.fnds [13, 12, 11, 10, 9, 8, 7, 6, 5, 4, 3, 2, 0, 1] (by kernel_rfl) ⟨by kernel_rfl, by kernel_rfl, by kernel_rfl, by kernel_rfl, by kernel_rfl, by kernel_rfl, by kernel_rfl, by kernel_rfl, by kernel_rfl, by kernel_rfl, by kernel_rfl, by kernel_rfl, by kernel_rfl, by kernel_rfl, trivial⟩ (by kernel_rfl)), ?_⟩
  refine H_step 34 (by kernel_rfl) (by kernel_rfl) (fun hfz cx' hx1 hx2 => ?_)
  refine CALL 44 [.s (.int .i64 0), .s (.int .i64 2)] (.g [.int .i64 (placeL 0 2).load, .int .i64 (placeL 0 2).lane]) [(((((((((listA ownL bothL).2 != 0) || ((levelA strictL ([(placeL 0 0)])).2 != 0)) || ((tiltsA ownL ([(placeL 0 0), (placeL 1 0)])).2 != 0)) || ((stowA strictL ([0, 1])).2 != 0)) || ((mostA ownL).2 != 0)) || (!((listA ownL bothL).1.lo == (rangeF (-1) 2).lo && (listA ownL bothL).1.hi == (rangeF (-1) 2).hi))) || ((levelA strictL ([(placeL 0 0)])).1 != 1)) || ((tiltsA ownL ([(placeL 0 0), (placeL 1 0)])).1 != 1), false)] (by kernel_rfl) (goes_of (by kernel_rfl)) (by kernel_rfl) (by kernel_rfl) (fun _ nV w h => placeL_calls  0 2 w  ) ?_
  refine WPO_end (by kernel_rfl) ⟨rfl, (hfz.fnds [13, 12, 11, 10, 9, 8, 7, 6, 5, 4, 3, 2, 0, 1] (by kernel_rfl) ⟨by kernel_rfl, by kernel_rfl, by kernel_rfl, by kernel_rfl, by kernel_rfl, by kernel_rfl, by kernel_rfl, by kernel_rfl, by kernel_rfl, by kernel_rfl, by kernel_rfl, by kernel_rfl, by kernel_rfl, by kernel_rfl, trivial⟩ (by kernel_rfl)), ?_⟩
  refine H_step 35 (by kernel_rfl) (by kernel_rfl) (fun hfz cx' hx1 hx2 => ?_)
  refine LITG tt_ok [(77, false)] (true && ((((((((((listA ownL bothL).2 != 0) || ((levelA strictL ([(placeL 0 0)])).2 != 0)) || ((tiltsA ownL ([(placeL 0 0), (placeL 1 0)])).2 != 0)) || ((stowA strictL ([0, 1])).2 != 0)) || ((mostA ownL).2 != 0)) || (!((listA ownL bothL).1.lo == (rangeF (-1) 2).lo && (listA ownL bothL).1.hi == (rangeF (-1) 2).hi))) || ((levelA strictL ([(placeL 0 0)])).1 != 1)) || ((tiltsA ownL ([(placeL 0 0), (placeL 1 0)])).1 != 1)) == false)) 65 2 2 [.int .i64 (placeL 1 0).load, .int .i64 (placeL 1 0).lane, .int .i64 (placeL 0 2).load, .int .i64 (placeL 0 2).lane] [(placeL 1 0), (placeL 0 2)] encPlace zPlace (by kernel_rfl) (by kernel_rfl) rfl (fun _ => rfl) (fun n => rfl) (by kernel_rfl) ?_
  refine WPO_end (by kernel_rfl) ⟨rfl, (hfz.fnds [13, 12, 11, 10, 9, 8, 7, 6, 5, 4, 3, 2, 0, 1] (by kernel_rfl) ⟨by kernel_rfl, by kernel_rfl, by kernel_rfl, by kernel_rfl, by kernel_rfl, by kernel_rfl, by kernel_rfl, by kernel_rfl, by kernel_rfl, by kernel_rfl, by kernel_rfl, by kernel_rfl, by kernel_rfl, by kernel_rfl, trivial⟩ (by kernel_rfl)), ?_⟩
  refine H_step 36 (by kernel_rfl) (by kernel_rfl) (fun hfz cx' hx1 hx2 => ?_)
  refine CALL 70 [.s (.ref 11), .s (.ref 14)] (.s (.bool (sameL (stowA strictL ([0, 1])).1 (bif (true && ((((((((((listA ownL bothL).2 != 0) || ((levelA strictL ([(placeL 0 0)])).2 != 0)) || ((tiltsA ownL ([(placeL 0 0), (placeL 1 0)])).2 != 0)) || ((stowA strictL ([0, 1])).2 != 0)) || ((mostA ownL).2 != 0)) || (!((listA ownL bothL).1.lo == (rangeF (-1) 2).lo && (listA ownL bothL).1.hi == (rangeF (-1) 2).hi))) || ((levelA strictL ([(placeL 0 0)])).1 != 1)) || ((tiltsA ownL ([(placeL 0 0), (placeL 1 0)])).1 != 1)) == false)) then [(placeL 1 0), (placeL 0 2)] else [])))) [(((((((((listA ownL bothL).2 != 0) || ((levelA strictL ([(placeL 0 0)])).2 != 0)) || ((tiltsA ownL ([(placeL 0 0), (placeL 1 0)])).2 != 0)) || ((stowA strictL ([0, 1])).2 != 0)) || ((mostA ownL).2 != 0)) || (!((listA ownL bothL).1.lo == (rangeF (-1) 2).lo && (listA ownL bothL).1.hi == (rangeF (-1) 2).hi))) || ((levelA strictL ([(placeL 0 0)])).1 != 1)) || ((tiltsA ownL ([(placeL 0 0), (placeL 1 0)])).1 != 1), false)] (by kernel_rfl) (goes_of (by kernel_rfl)) (by kernel_rfl) (by kernel_rfl) (fun _ nV w h => sameL_calls (nV 11) (nV 14) (stowA strictL ([0, 1])).1 (bif (true && ((((((((((listA ownL bothL).2 != 0) || ((levelA strictL ([(placeL 0 0)])).2 != 0)) || ((tiltsA ownL ([(placeL 0 0), (placeL 1 0)])).2 != 0)) || ((stowA strictL ([0, 1])).2 != 0)) || ((mostA ownL).2 != 0)) || (!((listA ownL bothL).1.lo == (rangeF (-1) 2).lo && (listA ownL bothL).1.hi == (rangeF (-1) 2).hi))) || ((levelA strictL ([(placeL 0 0)])).1 != 1)) || ((tiltsA ownL ([(placeL 0 0), (placeL 1 0)])).1 != 1)) == false)) then [(placeL 1 0), (placeL 0 2)] else []) w (h.reads (id := 11) (kd := .ro) (e := 65) (by kernel_rfl)) (h.reads (id := 14) (kd := .own) (e := 65) (by kernel_rfl)) ) ?_
  refine WPO_end (by kernel_rfl) ⟨rfl, (hfz.fnds [13, 12, 11, 10, 9, 8, 7, 6, 5, 4, 3, 2, 0, 1] (by kernel_rfl) ⟨by kernel_rfl, by kernel_rfl, by kernel_rfl, by kernel_rfl, by kernel_rfl, by kernel_rfl, by kernel_rfl, by kernel_rfl, by kernel_rfl, by kernel_rfl, by kernel_rfl, by kernel_rfl, by kernel_rfl, by kernel_rfl, trivial⟩ (by kernel_rfl)), ?_⟩
  refine H_run tt_ok [37, 38, 39, 40] (f' := 4) (by kernel_rfl) (by kernel_rfl) (by kernel_rfl) ?_
  refine H_step 41 (by kernel_rfl) (by kernel_rfl) (fun hfz cx' hx1 hx2 => ?_)
  refine LITG tt_ok [(85, false)] (true && (((((((((((listA ownL bothL).2 != 0) || ((levelA strictL ([(placeL 0 0)])).2 != 0)) || ((tiltsA ownL ([(placeL 0 0), (placeL 1 0)])).2 != 0)) || ((stowA strictL ([0, 1])).2 != 0)) || ((mostA ownL).2 != 0)) || (!((listA ownL bothL).1.lo == (rangeF (-1) 2).lo && (listA ownL bothL).1.hi == (rangeF (-1) 2).hi))) || ((levelA strictL ([(placeL 0 0)])).1 != 1)) || ((tiltsA ownL ([(placeL 0 0), (placeL 1 0)])).1 != 1)) || (!(sameL (stowA strictL ([0, 1])).1 (bif (true && ((((((((((listA ownL bothL).2 != 0) || ((levelA strictL ([(placeL 0 0)])).2 != 0)) || ((tiltsA ownL ([(placeL 0 0), (placeL 1 0)])).2 != 0)) || ((stowA strictL ([0, 1])).2 != 0)) || ((mostA ownL).2 != 0)) || (!((listA ownL bothL).1.lo == (rangeF (-1) 2).lo && (listA ownL bothL).1.hi == (rangeF (-1) 2).hi))) || ((levelA strictL ([(placeL 0 0)])).1 != 1)) || ((tiltsA ownL ([(placeL 0 0), (placeL 1 0)])).1 != 1)) == false)) then [(placeL 1 0), (placeL 0 2)] else [])))) == false)) 3 3 1 [.int .i64 0, .int .i64 1, .int .i64 2] [0, 1, 2] encI 0 (by kernel_rfl) (by kernel_rfl) rfl (fun _ => rfl) (fun n => rfl) (by kernel_rfl) ?_
  refine WPO_end (by kernel_rfl) ⟨rfl, (hfz.fnds [13, 12, 11, 10, 9, 8, 7, 6, 5, 4, 3, 2, 0, 1] (by kernel_rfl) ⟨by kernel_rfl, by kernel_rfl, by kernel_rfl, by kernel_rfl, by kernel_rfl, by kernel_rfl, by kernel_rfl, by kernel_rfl, by kernel_rfl, by kernel_rfl, by kernel_rfl, by kernel_rfl, by kernel_rfl, by kernel_rfl, trivial⟩ (by kernel_rfl)), ?_⟩
  refine H_step 42 (by kernel_rfl) (by kernel_rfl) (fun hfz cx' hx1 hx2 => ?_)
  refine CALL 24 [.s (.ref 13), .s (.ref 15)] (.s (.bool (alikeF (mostA ownL).1 (bif (true && (((((((((((listA ownL bothL).2 != 0) || ((levelA strictL ([(placeL 0 0)])).2 != 0)) || ((tiltsA ownL ([(placeL 0 0), (placeL 1 0)])).2 != 0)) || ((stowA strictL ([0, 1])).2 != 0)) || ((mostA ownL).2 != 0)) || (!((listA ownL bothL).1.lo == (rangeF (-1) 2).lo && (listA ownL bothL).1.hi == (rangeF (-1) 2).hi))) || ((levelA strictL ([(placeL 0 0)])).1 != 1)) || ((tiltsA ownL ([(placeL 0 0), (placeL 1 0)])).1 != 1)) || (!(sameL (stowA strictL ([0, 1])).1 (bif (true && ((((((((((listA ownL bothL).2 != 0) || ((levelA strictL ([(placeL 0 0)])).2 != 0)) || ((tiltsA ownL ([(placeL 0 0), (placeL 1 0)])).2 != 0)) || ((stowA strictL ([0, 1])).2 != 0)) || ((mostA ownL).2 != 0)) || (!((listA ownL bothL).1.lo == (rangeF (-1) 2).lo && (listA ownL bothL).1.hi == (rangeF (-1) 2).hi))) || ((levelA strictL ([(placeL 0 0)])).1 != 1)) || ((tiltsA ownL ([(placeL 0 0), (placeL 1 0)])).1 != 1)) == false)) then [(placeL 1 0), (placeL 0 2)] else [])))) == false)) then [0, 1, 2] else [])))) [((((((((((listA ownL bothL).2 != 0) || ((levelA strictL ([(placeL 0 0)])).2 != 0)) || ((tiltsA ownL ([(placeL 0 0), (placeL 1 0)])).2 != 0)) || ((stowA strictL ([0, 1])).2 != 0)) || ((mostA ownL).2 != 0)) || (!((listA ownL bothL).1.lo == (rangeF (-1) 2).lo && (listA ownL bothL).1.hi == (rangeF (-1) 2).hi))) || ((levelA strictL ([(placeL 0 0)])).1 != 1)) || ((tiltsA ownL ([(placeL 0 0), (placeL 1 0)])).1 != 1)) || (!(sameL (stowA strictL ([0, 1])).1 (bif (true && ((((((((((listA ownL bothL).2 != 0) || ((levelA strictL ([(placeL 0 0)])).2 != 0)) || ((tiltsA ownL ([(placeL 0 0), (placeL 1 0)])).2 != 0)) || ((stowA strictL ([0, 1])).2 != 0)) || ((mostA ownL).2 != 0)) || (!((listA ownL bothL).1.lo == (rangeF (-1) 2).lo && (listA ownL bothL).1.hi == (rangeF (-1) 2).hi))) || ((levelA strictL ([(placeL 0 0)])).1 != 1)) || ((tiltsA ownL ([(placeL 0 0), (placeL 1 0)])).1 != 1)) == false)) then [(placeL 1 0), (placeL 0 2)] else []))), false)] (by kernel_rfl) (goes_of (by kernel_rfl)) (by kernel_rfl) (by kernel_rfl) (fun _ nV w h => alikeF_calls (nV 13) (nV 15) (mostA ownL).1 (bif (true && (((((((((((listA ownL bothL).2 != 0) || ((levelA strictL ([(placeL 0 0)])).2 != 0)) || ((tiltsA ownL ([(placeL 0 0), (placeL 1 0)])).2 != 0)) || ((stowA strictL ([0, 1])).2 != 0)) || ((mostA ownL).2 != 0)) || (!((listA ownL bothL).1.lo == (rangeF (-1) 2).lo && (listA ownL bothL).1.hi == (rangeF (-1) 2).hi))) || ((levelA strictL ([(placeL 0 0)])).1 != 1)) || ((tiltsA ownL ([(placeL 0 0), (placeL 1 0)])).1 != 1)) || (!(sameL (stowA strictL ([0, 1])).1 (bif (true && ((((((((((listA ownL bothL).2 != 0) || ((levelA strictL ([(placeL 0 0)])).2 != 0)) || ((tiltsA ownL ([(placeL 0 0), (placeL 1 0)])).2 != 0)) || ((stowA strictL ([0, 1])).2 != 0)) || ((mostA ownL).2 != 0)) || (!((listA ownL bothL).1.lo == (rangeF (-1) 2).lo && (listA ownL bothL).1.hi == (rangeF (-1) 2).hi))) || ((levelA strictL ([(placeL 0 0)])).1 != 1)) || ((tiltsA ownL ([(placeL 0 0), (placeL 1 0)])).1 != 1)) == false)) then [(placeL 1 0), (placeL 0 2)] else [])))) == false)) then [0, 1, 2] else []) w (h.reads (id := 13) (kd := .ro) (e := 3) (by kernel_rfl)) (h.reads (id := 15) (kd := .own) (e := 3) (by kernel_rfl)) ) ?_
  refine WPO_end (by kernel_rfl) ⟨rfl, (hfz.fnds [13, 12, 11, 10, 9, 8, 7, 6, 5, 4, 3, 2, 0, 1] (by kernel_rfl) ⟨by kernel_rfl, by kernel_rfl, by kernel_rfl, by kernel_rfl, by kernel_rfl, by kernel_rfl, by kernel_rfl, by kernel_rfl, by kernel_rfl, by kernel_rfl, by kernel_rfl, by kernel_rfl, by kernel_rfl, by kernel_rfl, trivial⟩ (by kernel_rfl)), ?_⟩
  refine H_run tt_ok [43, 44] (f' := 0) (by kernel_rfl) (by kernel_rfl) (by kernel_rfl) ?_
  refine H_done (by kernel_rfl) ?_
  refine WP_cond (((((((((((listA ownL bothL).2 != 0) || ((levelA strictL ([(placeL 0 0)])).2 != 0)) || ((tiltsA ownL ([(placeL 0 0), (placeL 1 0)])).2 != 0)) || ((stowA strictL ([0, 1])).2 != 0)) || ((mostA ownL).2 != 0)) || (!((listA ownL bothL).1.lo == (rangeF (-1) 2).lo && (listA ownL bothL).1.hi == (rangeF (-1) 2).hi))) || ((levelA strictL ([(placeL 0 0)])).1 != 1)) || ((tiltsA ownL ([(placeL 0 0), (placeL 1 0)])).1 != 1)) || (!(sameL (stowA strictL ([0, 1])).1 (bif (true && ((((((((((listA ownL bothL).2 != 0) || ((levelA strictL ([(placeL 0 0)])).2 != 0)) || ((tiltsA ownL ([(placeL 0 0), (placeL 1 0)])).2 != 0)) || ((stowA strictL ([0, 1])).2 != 0)) || ((mostA ownL).2 != 0)) || (!((listA ownL bothL).1.lo == (rangeF (-1) 2).lo && (listA ownL bothL).1.hi == (rangeF (-1) 2).hi))) || ((levelA strictL ([(placeL 0 0)])).1 != 1)) || ((tiltsA ownL ([(placeL 0 0), (placeL 1 0)])).1 != 1)) == false)) then [(placeL 1 0), (placeL 0 2)] else [])))) || (!(alikeF (mostA ownL).1 (bif (true && (((((((((((listA ownL bothL).2 != 0) || ((levelA strictL ([(placeL 0 0)])).2 != 0)) || ((tiltsA ownL ([(placeL 0 0), (placeL 1 0)])).2 != 0)) || ((stowA strictL ([0, 1])).2 != 0)) || ((mostA ownL).2 != 0)) || (!((listA ownL bothL).1.lo == (rangeF (-1) 2).lo && (listA ownL bothL).1.hi == (rangeF (-1) 2).hi))) || ((levelA strictL ([(placeL 0 0)])).1 != 1)) || ((tiltsA ownL ([(placeL 0 0), (placeL 1 0)])).1 != 1)) || (!(sameL (stowA strictL ([0, 1])).1 (bif (true && ((((((((((listA ownL bothL).2 != 0) || ((levelA strictL ([(placeL 0 0)])).2 != 0)) || ((tiltsA ownL ([(placeL 0 0), (placeL 1 0)])).2 != 0)) || ((stowA strictL ([0, 1])).2 != 0)) || ((mostA ownL).2 != 0)) || (!((listA ownL bothL).1.lo == (rangeF (-1) 2).lo && (listA ownL bothL).1.hi == (rangeF (-1) 2).hi))) || ((levelA strictL ([(placeL 0 0)])).1 != 1)) || ((tiltsA ownL ([(placeL 0 0), (placeL 1 0)])).1 != 1)) == false)) then [(placeL 1 0), (placeL 0 2)] else [])))) == false)) then [0, 1, 2] else [])))) (by kernel_rfl) (fun hc2 => ?_) (fun hc2 => ?_)
  · have hc2' := hc2; try simp only [Bool.and_eq_true, Bool.or_eq_true, Bool.and_eq_false_iff, Bool.or_eq_false_iff, Bool.not_eq_true', Bool.not_eq_false', decide_eq_true_eq, decide_eq_false_iff_not, beq_iff_eq, beq_eq_false_iff_ne, bne_iff_ne, bne_eq_false_iff_eq, ne_eq] at hc2'
    refine WP_seq (WP_region (WPO_all tt_ok (by kernel_rfl) ?_))
    refine WP_ret ?_
    exact ⟨.s (.bool false), by kernel_rfl, fun nV w' h => ⟨by rw [show stowedL = false from by unfold stowedL; simp only [hc2, cond_true, cond_false]]; rfl, h.bel⟩⟩
  have hc2' := hc2; try simp only [Bool.and_eq_true, Bool.or_eq_true, Bool.and_eq_false_iff, Bool.or_eq_false_iff, Bool.not_eq_true', Bool.not_eq_false', decide_eq_true_eq, decide_eq_false_iff_not, beq_iff_eq, beq_eq_false_iff_ne, bne_iff_ne, bne_eq_false_iff_eq, ne_eq] at hc2'
  refine WP_skip ?_
  refine WP_seq (WP_region (CALLO 71 [] (.g [.ref 16, .int .i64 lightL.rule, .int .i64 lightL.most]) 61 3 lightL.loads encLoad zLoad 16 (by kernel_rfl) (by kernel_rfl) (goes_of (by kernel_rfl)) (by kernel_rfl) (by kernel_rfl) (fun _ => rfl) ((fun nV w h => lightL_calls   w  )) ?_))
  refine CALLR 46 [.g [.ref 16, .int .i64 lightL.rule, .int .i64 lightL.most]] (.t [(false, [.ref 17]), (false, [.int .i64 (fewestA lightL).2])]) 3 1 (fewestA lightL).1 encI 0 17 (by kernel_rfl) (by kernel_rfl) (goes_of (by kernel_rfl)) (by kernel_rfl) (by kernel_rfl) (by decide) (fun _ => rfl) (fun nV w h => (fewestA_calls (nV 16) lightL w (h.reads (id := 16) (kd := .own) (e := 61) (by kernel_rfl)) (h.ents (0, .pf NobodyAt (· = 1)) (fnd_mem (by kernel_rfl))).1 (h.ents (1, .pf LanesAt (· = 0)) (fnd_mem (by kernel_rfl))).1 ).mono fun e w' h1 => weak_fresh h1) ?_
  refine WPO_all tt_ok (by kernel_rfl) ?_
  refine WP_seq (WP_region (CALLO 69 [] (.g [.ref 18, .int .i64 wideL.rule, .int .i64 wideL.most]) 61 3 wideL.loads encLoad zLoad 18 (by kernel_rfl) (by kernel_rfl) (goes_of (by kernel_rfl)) (by kernel_rfl) (by kernel_rfl) (fun _ => rfl) ((fun nV w h => wideL_calls   w  )) ?_))
  refine CALLR 47 [.g [.ref 18, .int .i64 wideL.rule, .int .i64 wideL.most]] (.t [(false, [.ref 19]), (false, [.int .i64 (neverA wideL).2])]) 3 1 (neverA wideL).1 encI 0 19 (by kernel_rfl) (by kernel_rfl) (goes_of (by kernel_rfl)) (by kernel_rfl) (by kernel_rfl) (by decide) (fun _ => rfl) (fun nV w h => (neverA_calls (nV 18) wideL w (h.reads (id := 18) (kd := .own) (e := 61) (by kernel_rfl)) (h.ents (0, .pf NobodyAt (· = 1)) (fnd_mem (by kernel_rfl))).1 (h.ents (1, .pf LanesAt (· = 0)) (fnd_mem (by kernel_rfl))).1 ).mono fun e w' h1 => weak_fresh h1) ?_
  refine WPO_all tt_ok (by kernel_rfl) ?_
  refine WP_seq (WP_region (CALLO 63 [] (.g [.ref 20, .int .i64 ownL.rule, .int .i64 ownL.most]) 61 3 ownL.loads encLoad zLoad 20 (by kernel_rfl) (by kernel_rfl) (goes_of (by kernel_rfl)) (by kernel_rfl) (by kernel_rfl) (fun _ => rfl) ((fun nV w h => ownL_calls   w  )) ?_))
  refine CALL 48 [.g [.ref 20, .int .i64 ownL.rule, .int .i64 ownL.most]] (.t [(false, [.int .i64 (weighA ownL).1]), (false, [.int .i64 (weighA ownL).2])]) [] (by kernel_rfl) (goes_of (by kernel_rfl)) (by kernel_rfl) (by kernel_rfl) (fun _ nV w h => weighA_calls (nV 20) ownL w (h.reads (id := 20) (kd := .own) (e := 61) (by kernel_rfl)) (h.ents (0, .pf NobodyAt (· = 1)) (fnd_mem (by kernel_rfl))).1 (h.ents (1, .pf LanesAt (· = 0)) (fnd_mem (by kernel_rfl))).1 ) ?_
  refine WPO_all tt_ok (by kernel_rfl) ?_
  refine WP_seq (WP_region (WPO_run tt_ok 12 (by kernel_rfl) ?_))
  refine LITG tt_ok [(116, true)] (true && (((((fewestA lightL).2 == 0) && ((neverA wideL).2 == 0)) && ((weighA ownL).2 == 0)) == true)) 3 4 1 [.int .i64 0, .int .i64 0, .int .i64 1, .int .i64 1] [0, 0, 1, 1] encI 0 (by kernel_rfl) (by kernel_rfl) rfl (fun _ => rfl) (fun n => rfl) (by kernel_rfl) ?_
  refine CALL 24 [.s (.ref 17), .s (.ref 21)] (.s (.bool (alikeF (fewestA lightL).1 (bif (true && (((((fewestA lightL).2 == 0) && ((neverA wideL).2 == 0)) && ((weighA ownL).2 == 0)) == true)) then [0, 0, 1, 1] else [])))) [((((fewestA lightL).2 == 0) && ((neverA wideL).2 == 0)) && ((weighA ownL).2 == 0), true)] (by kernel_rfl) (goes_of (by kernel_rfl)) (by kernel_rfl) (by kernel_rfl) (fun _ nV w h => alikeF_calls (nV 17) (nV 21) (fewestA lightL).1 (bif (true && (((((fewestA lightL).2 == 0) && ((neverA wideL).2 == 0)) && ((weighA ownL).2 == 0)) == true)) then [0, 0, 1, 1] else []) w (h.reads (id := 17) (kd := .ro) (e := 3) (by kernel_rfl)) (h.reads (id := 21) (kd := .own) (e := 3) (by kernel_rfl)) ) ?_
  refine WPO_run tt_ok 3 (by kernel_rfl) ?_
  refine LITG tt_ok [(121, true)] (true && ((((((fewestA lightL).2 == 0) && ((neverA wideL).2 == 0)) && ((weighA ownL).2 == 0)) && (alikeF (fewestA lightL).1 (bif (true && (((((fewestA lightL).2 == 0) && ((neverA wideL).2 == 0)) && ((weighA ownL).2 == 0)) == true)) then [0, 0, 1, 1] else []))) == true)) 3 1 1 [.int .i64 4] [4] encI 0 (by kernel_rfl) (by kernel_rfl) rfl (fun _ => rfl) (fun n => rfl) (by kernel_rfl) ?_
  refine CALL 24 [.s (.ref 19), .s (.ref 22)] (.s (.bool (alikeF (neverA wideL).1 (bif (true && ((((((fewestA lightL).2 == 0) && ((neverA wideL).2 == 0)) && ((weighA ownL).2 == 0)) && (alikeF (fewestA lightL).1 (bif (true && (((((fewestA lightL).2 == 0) && ((neverA wideL).2 == 0)) && ((weighA ownL).2 == 0)) == true)) then [0, 0, 1, 1] else []))) == true)) then [4] else [])))) [(((((fewestA lightL).2 == 0) && ((neverA wideL).2 == 0)) && ((weighA ownL).2 == 0)) && (alikeF (fewestA lightL).1 (bif (true && (((((fewestA lightL).2 == 0) && ((neverA wideL).2 == 0)) && ((weighA ownL).2 == 0)) == true)) then [0, 0, 1, 1] else [])), true)] (by kernel_rfl) (goes_of (by kernel_rfl)) (by kernel_rfl) (by kernel_rfl) (fun _ nV w h => alikeF_calls (nV 19) (nV 22) (neverA wideL).1 (bif (true && ((((((fewestA lightL).2 == 0) && ((neverA wideL).2 == 0)) && ((weighA ownL).2 == 0)) && (alikeF (fewestA lightL).1 (bif (true && (((((fewestA lightL).2 == 0) && ((neverA wideL).2 == 0)) && ((weighA ownL).2 == 0)) == true)) then [0, 0, 1, 1] else []))) == true)) then [4] else []) w (h.reads (id := 19) (kd := .ro) (e := 3) (by kernel_rfl)) (h.reads (id := 22) (kd := .own) (e := 3) (by kernel_rfl)) ) ?_
  refine WPO_all tt_ok (by kernel_rfl) ?_
  refine WP_ret ?_
  exact ⟨.s (.bool (((((((fewestA lightL).2 == 0) && ((neverA wideL).2 == 0)) && ((weighA ownL).2 == 0)) && (alikeF (fewestA lightL).1 (bif (true && (((((fewestA lightL).2 == 0) && ((neverA wideL).2 == 0)) && ((weighA ownL).2 == 0)) == true)) then [0, 0, 1, 1] else []))) && (alikeF (neverA wideL).1 (bif (true && ((((((fewestA lightL).2 == 0) && ((neverA wideL).2 == 0)) && ((weighA ownL).2 == 0)) && (alikeF (fewestA lightL).1 (bif (true && (((((fewestA lightL).2 == 0) && ((neverA wideL).2 == 0)) && ((weighA ownL).2 == 0)) == true)) then [0, 0, 1, 1] else []))) == true)) then [4] else []))) && ((weighA ownL).1 == 0))), by kernel_rfl, fun nV w' h => ⟨by rw [show stowedL = (((((((fewestA lightL).2 == 0) && ((neverA wideL).2 == 0)) && ((weighA ownL).2 == 0)) && (alikeF (fewestA lightL).1 (bif (true && (((((fewestA lightL).2 == 0) && ((neverA wideL).2 == 0)) && ((weighA ownL).2 == 0)) == true)) then [0, 0, 1, 1] else []))) && (alikeF (neverA wideL).1 (bif (true && ((((((fewestA lightL).2 == 0) && ((neverA wideL).2 == 0)) && ((weighA ownL).2 == 0)) && (alikeF (fewestA lightL).1 (bif (true && (((((fewestA lightL).2 == 0) && ((neverA wideL).2 == 0)) && ((weighA ownL).2 == 0)) == true)) then [0, 0, 1, 1] else []))) == true)) then [4] else []))) && ((weighA ownL).1 == 0)) from by unfold stowedL; simp only [hc2, cond_true, cond_false]]; rfl, h.bel⟩⟩
theorem stowedL_true : stowedL = true := by kernel_rfl
end Go.Proofs.YthfnedbpmdkdjaaDoor.D
namespace Go.Proofs.YthfnedbpmdkdjaaDoor.D
open Go Go.RowKit Go.Proofs.YthfnedbpmdkdjaaDoor.Eng Go.Proofs.YthfnedbpmdkdjaaDoor.Cm
set_option linter.unusedVariables false
set_option linter.unusedSimpArgs false
set_option linter.unusedSectionVars false
def crossingL_c1 (l : List Int) (c : Int) (k1 : Nat) : (List Int) → Bool := fun v1_1 => decide ((k1 : Int) < (l.length : Int))
def crossingL_b1 (l : List Int) (c : Int) (k1 : Nat) : (List Int) → Bd (List Int) (List Int) := fun v1_1 => (bif (l.getD k1 0) == c then .go (v1_1 ++ ([(k1 : Int)])) else .go v1_1)
def crossingL (l : List Int) (c : Int) : (List Int) :=
  (match loopR (crossingL_c1 l c) (crossingL_b1 l c) l.length 0 ([] : List Int) with | .brk u1_0 => u1_0 | .ret r => r)
end Go.Proofs.YthfnedbpmdkdjaaDoor.D
namespace Go.Proofs.YthfnedbpmdkdjaaDoor.D
open Go Go.ChangeShapes Go.WideShapes Go.RowKit Go.Proofs.YthfnedbpmdkdjaaDoor.Eng Go.Proofs.YthfnedbpmdkdjaaDoor.Cm
set_option linter.unusedVariables false
set_option linter.unusedSimpArgs false
set_option linter.unusedSectionVars false
set_option maxRecDepth 100000
theorem app_eq {a b c d : List Value} (h : a = b) (k : c = d) : a ++ c = b ++ d := by rw [h, k]
theorem opn3 {w : World} : Opn Tryd.prog w 3 (fun cs => ∃ (b : Int), cs = [iv b] ∧ i64B b ∧ True) := (Opn_int Tryd.underlying3).mono fun cs ⟨n, h1, h2⟩ => ⟨n, h1, h2, trivial⟩
theorem opn43 {w : World} : Opn Tryd.prog w 43 (fun cs => ∃ (b : Span), cs = [iv b.lo, iv b.hi] ∧ i64B b.lo ∧ i64B b.hi ∧ True) :=
  (Opn_parts (P := Tryd.prog) (w := w) [⟨0, 3, 1, (fun cs => ∃ (b : Int), cs = [iv b] ∧ i64B b ∧ True)⟩, ⟨1, 3, 1, (fun cs => ∃ (b : Int), cs = [iv b] ∧ i64B b ∧ True)⟩] 2 Tryd.underlying43 (by kernel_rfl) (by kernel_rfl) ⟨opn3, opn3, trivial⟩).mono fun cs h => by
    obtain ⟨hl, ⟨b0, e0, f0_0, _⟩, ⟨b1, e1, f1_0, _⟩, _⟩ := h
    exact ⟨(⟨b0, b1⟩ : Span), (tl 0 1 cs).trans (app_eq e0 ((tl 1 1 cs).trans (app_eq e1 (tlz hl)))), f0_0, f1_0, trivial⟩
theorem opn61 {w : World} : Opn Tryd.prog w 61 (fun cs => ∃ (b : Load), cs = [iv b.w.lo, iv b.w.hi, iv b.lanes] ∧ i64B b.w.lo ∧ i64B b.w.hi ∧ i64B b.lanes ∧ True) :=
  (Opn_parts (P := Tryd.prog) (w := w) [⟨0, 43, 2, (fun cs => ∃ (b : Span), cs = [iv b.lo, iv b.hi] ∧ i64B b.lo ∧ i64B b.hi ∧ True)⟩, ⟨2, 3, 1, (fun cs => ∃ (b : Int), cs = [iv b] ∧ i64B b ∧ True)⟩] 3 Tryd.underlying61 (by kernel_rfl) (by kernel_rfl) ⟨opn43, opn3, trivial⟩).mono fun cs h => by
    obtain ⟨hl, ⟨b0, e0, f0_0, f0_1, _⟩, ⟨b1, e1, f1_0, _⟩, _⟩ := h
    exact ⟨(⟨b0, b1⟩ : Load), (tl 0 2 cs).trans (app_eq e0 ((tl 2 1 cs).trans (app_eq e1 (tlz hl)))), f0_0, f0_1, f1_0, trivial⟩
theorem opn22 {w : World} : Opn Tryd.prog w 22 (fun cs => ∃ (g0 : Value) (b : List Load), cs = [g0] ∧ (Reads w g0 3 b encLoad zLoad ∧ (∀ a ∈ b, i64B a.w.lo ∧ i64B a.w.hi ∧ i64B a.lanes) ∧ b.length * 24 ≤ reachBytes) ∧ True) := (Opn_slice (encA := encLoad) (z := zLoad) (ok := (fun a : Load => i64B a.w.lo ∧ i64B a.w.hi ∧ i64B a.lanes)) (sz := 3) Tryd.underlying22 (by kernel_rfl) (opn61.mono fun cs ⟨a, h1, k0, k1, k2, _⟩ => ⟨a, h1, ⟨k0, k1, k2⟩⟩)).mono fun cs ⟨v, l, h1, h2, h3, h4⟩ => ⟨v, l, h1, ⟨h2, h3, h4⟩, trivial⟩
theorem opn24 {w : World} : Opn Tryd.prog w 24 (fun cs => ∃ (g0 : Value) (b : DBook), cs = [g0, iv b.rule, iv b.most] ∧ (Reads w g0 3 b.loads encLoad zLoad ∧ (∀ a ∈ b.loads, i64B a.w.lo ∧ i64B a.w.hi ∧ i64B a.lanes) ∧ b.loads.length * 24 ≤ reachBytes) ∧ i64B b.rule ∧ i64B b.most ∧ True) :=
  (Opn_parts (P := Tryd.prog) (w := w) [⟨0, 22, 1, (fun cs => ∃ (g0 : Value) (b : List Load), cs = [g0] ∧ (Reads w g0 3 b encLoad zLoad ∧ (∀ a ∈ b, i64B a.w.lo ∧ i64B a.w.hi ∧ i64B a.lanes) ∧ b.length * 24 ≤ reachBytes) ∧ True)⟩, ⟨1, 3, 1, (fun cs => ∃ (b : Int), cs = [iv b] ∧ i64B b ∧ True)⟩, ⟨2, 3, 1, (fun cs => ∃ (b : Int), cs = [iv b] ∧ i64B b ∧ True)⟩] 3 Tryd.underlying24 (by kernel_rfl) (by kernel_rfl) ⟨opn22, opn3, opn3, trivial⟩).mono fun cs h => by
    obtain ⟨hl, ⟨p0_0, b0, e0, f0_0, _⟩, ⟨b1, e1, f1_0, _⟩, ⟨b2, e2, f2_0, _⟩, _⟩ := h
    exact ⟨p0_0, (⟨b0, b1, b2⟩ : DBook), (tl 0 1 cs).trans (app_eq e0 ((tl 1 1 cs).trans (app_eq e1 ((tl 2 1 cs).trans (app_eq e2 (tlz hl)))))), f0_0, f1_0, f2_0, trivial⟩
theorem own : ownKnob Tryd.prog.godebug = none := by kernel_rfl
theorem laidOut : laidOutB Tryd.prog = true := by kernel_rfl
theorem gLanes : Tryd.prog.globalNamed "prow/deck.lanes" = some 0 := by kernel_rfl
theorem tLanes : (Tryd.prog.globals[0]?).map (·.type) = some 127 := by kernel_rfl
theorem gNob : Tryd.prog.globalNamed "prow/deck.nobody" = some 1 := by kernel_rfl
theorem tNob : (Tryd.prog.globals[1]?).map (·.type) = some 65 := by kernel_rfl
theorem int_of_trod {H : Type} {enc : TypeId × Value → H} {Pr : Program} {w : World} {base : Nat} {sp : Nat → Bool} {held : Bool} {fuel : Nat} {t : TypeId} {k : IntKind} {n : Int} {v : Value} {q : List MemPlace} (ht : Pr.underlying t = some (.int k)) (h : DataW.trod enc Pr w base sp held fuel t [v] = some (.lit (.int k n), q)) : v = .int k n := by
  cases fuel with
  | zero => cases h
  | succ m =>
    simp only [DataW.trod, ht] at h
    cases v <;> simp at h
    rename_i k' n'
    obtain ⟨⟨h1, h2⟩, h3⟩ := h
    first | (obtain ⟨h4, _⟩ := h3; subst h1; rw [h4]) | (subst h1; simp_all)
theorem deck_of {W : World} (hS : W.ShapedOpen Tryd.prog) (h : laidMetH Tryd.prog [("prow/deck.lanes", Rows.laid_prow_deck_lanes), ("prow/deck.nobody", Rows.laid_prow_deck_nobody)] W) : NobodyAt W ∧ LanesAt W := by
  constructor
  · have h1 : laidMet Tryd.prog [("prow/deck.nobody", Rows.laid_prow_deck_nobody)] W := by
      have h2 : laidMet Tryd.prog [("prow/deck.nobody", Rows.laid_prow_deck_nobody)] W ∧ handlesMet Tryd.prog [("prow/deck.lanes", Rows.laid_prow_deck_lanes)] W := h
      exact h2.1
    obtain ⟨ps, ⟨g, t, cs, fuel, p, q, hg, ht, hv, hd, _⟩, _⟩ := h1
    obtain rfl := Option.some.inj (gNob.symm.trans hg)
    obtain rfl := Option.some.inj (tNob.symm.trans ht)
    obtain ⟨c, hc, hsz, _⟩ := hS.1 1 #[.int .i64 0, .int .i64 0] 65 (Nat.le_of_ble_eq_true (by kernel_rfl)) (by kernel_rfl)
    have hcs : ∀ i : Nat, W.cell? ⟨1, i, none⟩ = cs[i]? := fun i => World.var?_cell hg hv i
    have hcc : ∀ i : Nat, W.cell? ⟨1, i, none⟩ = c[i]? := fun i => cell_of_row W 1 _ _ _ _ hc
    have hd' : DataW.trod (fun _ => ()) Tryd.prog W 0 (fun _ => true) false fuel 65 cs.toList = some (.agg [.lit (.int .i64 (-1)), .lit (.int .i64 0)], p) := hd
    cases fuel with
    | zero => cases hd'
    | succ n =>
      simp only [DataW.trod, Tryd.underlying65] at hd'
      split at hd'
      · rename_i hl
        obtain ⟨xs, hxs, he⟩ := Option.map_eq_some_iff.1 hd'
        have hl2 : cs.toList.length = 2 := hl.trans (by kernel_rfl)
        have hk : Tryd.prog.cellsOf 3 = 1 := by kernel_rfl
        simp only [Prod.mk.injEq, DataW.agg.injEq] at he
        obtain ⟨y0, hy0, hx0⟩ := mapM_get hxs 0 _ rfl
        obtain ⟨y1, hy1, hx1⟩ := mapM_get hxs 1 _ rfl
        have h0 : y0.1 = .lit (.int .i64 (-1)) := by
          have := congrArg (fun l => l[0]?) he.1
          simp only [List.getElem?_map, hx0, Option.map_some] at this
          exact Option.some.inj this
        have h1 : y1.1 = .lit (.int .i64 0) := by
          have := congrArg (fun l => l[1]?) he.1
          simp only [List.getElem?_map, hx1, Option.map_some] at this
          exact Option.some.inj this
        simp only [hk] at hy0 hy1
        match hcl : cs.toList, hl2 with
        | [u0, u1], _ =>
          rw [hcl] at hy0 hy1
          have hu0 : DataW.trod (fun _ => ()) Tryd.prog W 0 (fun _ => true) false n 3 [u0] = some (.lit (.int .i64 (-1)), y0.2) := by rw [← h0]; exact hy0
          have hu1 : DataW.trod (fun _ => ()) Tryd.prog W 0 (fun _ => true) false n 3 [u1] = some (.lit (.int .i64 0), y1.2) := by rw [← h1]; exact hy1
          obtain rfl := int_of_trod Tryd.underlying3 hu0
          obtain rfl := int_of_trod Tryd.underlying3 hu1
          unfold NobodyAt
          rw [hc]
          have e0 := hcc 0
          have e1 := hcc 1
          rw [hcs 0, ← Array.getElem?_toList, hcl] at e0
          rw [hcs 1, ← Array.getElem?_toList, hcl] at e1
          have : c = #[iv (-1), iv 0] := by
            have hs2 : c.size = 2 := hsz
            apply Array.ext
            · rw [hs2]; rfl
            · intro i h1 h2
              rw [hs2] at h1
              have : i = 0 ∨ i = 1 := by omega
              rcases this with rfl | rfl
              · have := e0.symm; rw [Array.getElem?_eq_getElem (by omega)] at this; exact Option.some.inj this
              · have := e1.symm; rw [Array.getElem?_eq_getElem (by omega)] at this; exact Option.some.inj this
          rw [this]
      · cases hd'
  · obtain ⟨g, t, cs, fuel, p, hg, ht, hv, hd⟩ := h.funcs List.mem_cons_self
    obtain rfl := Option.some.inj (gLanes.symm.trans hg)
    obtain rfl := Option.some.inj (tLanes.symm.trans ht)
    obtain ⟨c, hc, hsz, _⟩ := hS.1 0 #[.nilFunc, .nilFunc, .nilFunc] 127 (Nat.le_of_ble_eq_true (by kernel_rfl)) (by kernel_rfl)
    have hcs : ∀ i : Nat, W.cell? ⟨0, i, none⟩ = cs[i]? := fun i => World.var?_cell hg hv i
    have hcc : ∀ i : Nat, W.cell? ⟨0, i, none⟩ = c[i]? := fun i => cell_of_row W 0 _ _ _ _ hc
    have hd' : DataW.trod (funcToken Tryd.prog) Tryd.prog W 0 (fun _ => true) true fuel 127 cs.toList = some (.agg [.held [40, 112, 114, 111, 119, 47, 100, 101, 99, 107, 46, 108, 105, 115, 116, 41, 46, 112, 111, 114, 116], .held [40, 112, 114, 111, 119, 47, 100, 101, 99, 107, 46, 108, 105, 115, 116, 41, 46, 109, 105, 100, 100, 108, 101], .held [40, 112, 114, 111, 119, 47, 100, 101, 99, 107, 46, 108, 105, 115, 116, 41, 46, 115, 116, 97, 114]], p) := hd
    cases fuel with
    | zero => cases hd'
    | succ n =>
      simp only [DataW.trod, Tryd.underlying127] at hd'
      split at hd'
      · rename_i hl
        obtain ⟨xs, hxs, he⟩ := Option.map_eq_some_iff.1 hd'
        have hl2 : cs.toList.length = 3 := hl.trans (by kernel_rfl)
        have hk : Tryd.prog.cellsOf 126 = 1 := by kernel_rfl
        simp only [Prod.mk.injEq, DataW.agg.injEq] at he
        obtain ⟨y0, hy0, hx0⟩ := mapM_get hxs 0 0 rfl
        obtain ⟨y1, hy1, hx1⟩ := mapM_get hxs 1 1 rfl
        obtain ⟨y2, hy2, hx2⟩ := mapM_get hxs 2 2 rfl
        have h0 : y0.1 = .held [40, 112, 114, 111, 119, 47, 100, 101, 99, 107, 46, 108, 105, 115, 116, 41, 46, 112, 111, 114, 116] := by
          have := congrArg (fun l => l[0]?) he.1
          simp only [List.getElem?_map, hx0, Option.map_some] at this
          exact Option.some.inj this
        have h1 : y1.1 = .held [40, 112, 114, 111, 119, 47, 100, 101, 99, 107, 46, 108, 105, 115, 116, 41, 46, 109, 105, 100, 100, 108, 101] := by
          have := congrArg (fun l => l[1]?) he.1
          simp only [List.getElem?_map, hx1, Option.map_some] at this
          exact Option.some.inj this
        have h2 : y2.1 = .held [40, 112, 114, 111, 119, 47, 100, 101, 99, 107, 46, 108, 105, 115, 116, 41, 46, 115, 116, 97, 114] := by
          have := congrArg (fun l => l[2]?) he.1
          simp only [List.getElem?_map, hx2, Option.map_some] at this
          exact Option.some.inj this
        rw [hk] at hy0 hy1 hy2
        match hcl : cs.toList, hl2 with
        | [u0, u1, u2], _ =>
          rw [hcl] at hy0 hy1 hy2
          have hu0 : DataW.trod (funcToken Tryd.prog) Tryd.prog W 0 (fun _ => true) true n 126 [u0] = some (.held [40, 112, 114, 111, 119, 47, 100, 101, 99, 107, 46, 108, 105, 115, 116, 41, 46, 112, 111, 114, 116], y0.2) := by rw [← h0]; exact hy0
          have hu1 : DataW.trod (funcToken Tryd.prog) Tryd.prog W 0 (fun _ => true) true n 126 [u1] = some (.held [40, 112, 114, 111, 119, 47, 100, 101, 99, 107, 46, 108, 105, 115, 116, 41, 46, 109, 105, 100, 100, 108, 101], y1.2) := by rw [← h1]; exact hy1
          have hu2 : DataW.trod (funcToken Tryd.prog) Tryd.prog W 0 (fun _ => true) true n 126 [u2] = some (.held [40, 112, 114, 111, 119, 47, 100, 101, 99, 107, 46, 108, 105, 115, 116, 41, 46, 115, 116, 97, 114], y2.2) := by rw [← h2]; exact hy2
          obtain rfl := Go.func_of_trod (f0 := 147) Tryd.underlying126 (by kernel_rfl) hu0
          obtain rfl := Go.func_of_trod (f0 := 145) Tryd.underlying126 (by kernel_rfl) hu1
          obtain rfl := Go.func_of_trod (f0 := 148) Tryd.underlying126 (by kernel_rfl) hu2
          unfold LanesAt
          rw [hc]
          have e0 := hcc 0
          have e1 := hcc 1
          have e2 := hcc 2
          rw [hcs 0, ← Array.getElem?_toList, hcl] at e0
          rw [hcs 1, ← Array.getElem?_toList, hcl] at e1
          rw [hcs 2, ← Array.getElem?_toList, hcl] at e2
          have : c = #[.func (.func 147) #[] #[], .func (.func 145) #[] #[], .func (.func 148) #[] #[]] := by
            have hs2 : c.size = 3 := hsz
            apply Array.ext
            · rw [hs2]; rfl
            · intro i h1 h2
              rw [hs2] at h1
              have : i = 0 ∨ i = 1 ∨ i = 2 := by omega
              rcases this with rfl | rfl | rfl
              · have := e0.symm; rw [Array.getElem?_eq_getElem (by omega)] at this; exact Option.some.inj this
              · have := e1.symm; rw [Array.getElem?_eq_getElem (by omega)] at this; exact Option.some.inj this
              · have := e2.symm; rw [Array.getElem?_eq_getElem (by omega)] at this; exact Option.some.inj this
          rw [this]
      · cases hd'
end Go.Proofs.YthfnedbpmdkdjaaDoor.D
namespace Go.Proofs.YthfnedbpmdkdjaaDoor.D
open Go Go.RowKit Go.Proofs.YthfnedbpmdkdjaaDoor.Eng Go.Proofs.YthfnedbpmdkdjaaDoor.Cm
set_option linter.unusedVariables false
set_option linter.unusedSimpArgs false
set_option linter.unusedSectionVars false
theorem members_eq (s : Int) (n : Nat) : membersF s (n : Int) = ((List.range n).filter fun k : Nat => memberF s k).map fun k : Nat => (k : Int) := by
  unfold membersF
  rw [show (n : Int).toNat = n by omega, loopR_app (fun k : Nat => bif memberF s k then [(k : Int)] else []) (fun k v hk => by simp only [membersF_c1]; rw [decide_eq_true]; omega) (fun k v hk => by
    simp only [membersF_b1]
    cases memberF s (k : Int) <;> simp)]
  simp only [List.nil_append]
  induction List.range n with
  | nil => rfl
  | cons x r ih =>
    rw [List.flatMap_cons, ih, List.filter_cons]
    cases memberF s (x : Int) <;> simp
theorem listed_eq (b : DBook) (s : Int) : listedD b s = membersF s (b.loads.length : Int) := by
  rw [members_eq]
  unfold listedD
  rw [loopR_app (fun k : Nat => bif memberF s k then [(k : Int)] else []) (fun k v hk => by simp only [listedD_c1]; rw [decide_eq_true]; omega) (fun k v hk => by
    simp only [listedD_b1, memberF]
    cases IntKind.i64.wrap (BitVec.ofInt IntKind.i64.bits (s.fdiv (2 ^ min (k : Int).toNat IntKind.i64.bits)) &&& BitVec.ofInt IntKind.i64.bits 1).toNat == 1 <;> simp)]
  simp only [List.nil_append]
  induction List.range b.loads.length with
  | nil => rfl
  | cons x r ih =>
    rw [List.flatMap_cons, ih, List.filter_cons]
    cases memberF s (x : Int) <;> simp
theorem members_mem {s : Int} {n : Nat} {x : Int} : x ∈ membersF s (n : Int) ↔ 0 ≤ x ∧ x < n ∧ memberF s x = true := by
  rw [members_eq]
  simp only [List.mem_map, List.mem_filter, List.mem_range]
  constructor
  · rintro ⟨k, ⟨h1, h2⟩, rfl⟩
    exact ⟨by omega, by omega, h2⟩
  · rintro ⟨h1, h2, h3⟩
    exact ⟨x.toNat, ⟨by omega, by rw [show ((x.toNat : Nat) : Int) = x by omega]; exact h3⟩, by omega⟩
def someD (b : DBook) : Int := (List.range (2 ^ b.loads.length)).foldl (fun (v : Int) (k : Nat) => bif (togetherD b (k : Int)) then IntKind.i64.wrap (BitVec.ofInt IntKind.i64.bits v ||| BitVec.ofInt IntKind.i64.bits (k : Int)).toNat else v) 0
theorem never_eq {b : DBook} (h : checkD b = 0) : neverA b = (listedD b (IntKind.i64.wrap (BitVec.ofInt IntKind.i64.bits (allD b) &&& ~~~(BitVec.ofInt IntKind.i64.bits (someD b))).toNat), 0) := by
  have hv := checkD_valid.1 h
  unfold neverA
  rw [h]
  simp only [bne_self_eq_false, cond_false]
  rw [loopR_foldl (c := neverA_c1 b) (b := neverA_b1 b) (fun (k : Nat) (v : Int) => bif (togetherD b (k : Int)) then IntKind.i64.wrap (BitVec.ofInt IntKind.i64.bits v ||| BitVec.ofInt IntKind.i64.bits (k : Int)).toNat else v) (fun k v hk => by simp only [neverA_c1]; rw [all_wrap hv.n.2, decide_eq_true]; omega) (fun k v hk => rfl)]
  rfl
theorem never_bad {b : DBook} (h : checkD b = 30) : neverA b = ([], 30) := by
  unfold neverA
  rw [h]; rfl
end Go.Proofs.YthfnedbpmdkdjaaDoor.D
namespace Go.Proofs.YthfnedbpmdkdjaaDoor.D
open Go Go.RowKit Go.Proofs.YthfnedbpmdkdjaaDoor.Eng Go.Proofs.YthfnedbpmdkdjaaDoor.Cm
set_option linter.unusedVariables false
set_option linter.unusedSimpArgs false
set_option linter.unusedSectionVars false
def orI (s x : Int) : Int := IntKind.i64.wrap (BitVec.ofInt IntKind.i64.bits s ||| BitVec.ofInt IntKind.i64.bits (IntKind.i64.wrap (1 * 2 ^ (min x.toNat IntKind.i64.bits)))).toNat
def orS (s t : Int) : Int := IntKind.i64.wrap (BitVec.ofInt IntKind.i64.bits s ||| BitVec.ofInt IntKind.i64.bits t).toNat
def M (n s : Nat) : List Int := membersF (s : Int) (n : Int)
def all6 (p : Nat → Nat → Bool) : Bool := (List.range 6).all fun n => (List.range (2 ^ n)).all fun s => p n s
theorem all6_spec {p : Nat → Nat → Bool} (h : all6 p = true) {n s : Nat} (hn : n ≤ 5) (hs : s < 2 ^ n) : p n s = true :=
  List.all_eq_true.1 (List.all_eq_true.1 h n (List.mem_range.2 (by omega))) s (List.mem_range.2 hs)
theorem better_all : ((List.range 32).all fun s => (List.range 32).all fun t => ((decide (((M 5 s).length : Int) > ((M 5 t).length : Int))) || ((((M 5 s).length : Int) == ((M 5 t).length : Int)) && (beforeF (M 5 s) (M 5 t)))) == longerD (M 5 s) (M 5 t)) = true := by kernel_rfl
theorem lift_all : all6 (fun n s => M n s == M 5 s) = true := by kernel_rfl
theorem set_all : all6 (fun n s => ((M n s).foldl orI 0 == (s : Int)) && setOfF (M n s) == (s : Int)) = true := by kernel_rfl
theorem pow_lt {n s : Nat} (hn : n ≤ 5) (hs : s < 2 ^ n) : s < 32 := by
  have := pow_le5 hn; omega
theorem lift {n s : Nat} (hn : n ≤ 5) (hs : s < 2 ^ n) : M n s = M 5 s := eq_of_beq (all6_spec lift_all hn hs)
theorem better_eq {n s t : Nat} (hn : n ≤ 5) (hs : s < 2 ^ n) (ht : t < 2 ^ n) : ((decide (((M n s).length : Int) > ((M n t).length : Int))) || ((((M n s).length : Int) == ((M n t).length : Int)) && (beforeF (M n s) (M n t)))) = longerD (M n s) (M n t) := by
  rw [lift hn hs, lift hn ht]
  exact eq_of_beq (List.all_eq_true.1 (List.all_eq_true.1 better_all s (List.mem_range.2 (pow_lt hn hs))) t (List.mem_range.2 (pow_lt hn ht)))
theorem set_M {n s : Nat} (hn : n ≤ 5) (hs : s < 2 ^ n) : (M n s).foldl orI 0 = (s : Int) := eq_of_beq (Bool.and_eq_true_iff.1 (all6_spec set_all hn hs)).1
structure Climb (n : Nat) (l : List Int) : Prop where
  rng : ∀ x ∈ l, 0 ≤ x ∧ x < n
  up : l.Pairwise (· < ·)
theorem M_climb (n s : Nat) : Climb n (M n s) := by
  refine ⟨fun x hx => ?_, ?_⟩
  · have := members_mem.1 hx
    exact ⟨this.1, this.2.1⟩
  · unfold M
    rw [members_eq]
    rw [List.pairwise_map]
    exact (List.pairwise_lt_range.filter _).imp fun h => by omega
end Go.Proofs.YthfnedbpmdkdjaaDoor.D
namespace Go.Proofs.YthfnedbpmdkdjaaDoor.D
open Go Go.RowKit Go.Proofs.YthfnedbpmdkdjaaDoor.Eng Go.Proofs.YthfnedbpmdkdjaaDoor.Cm
set_option linter.unusedVariables false
set_option linter.unusedSimpArgs false
set_option linter.unusedSectionVars false
theorem loopR_some {ρ : Type} {N : Nat} {b : Nat → Unit → Bd Unit ρ} {c : Nat → Unit → Bool} (g : Nat → Option ρ) (hc : ∀ k, k < N → c k () = true) (hb : ∀ k, k < N → b k () = match g k with | some r => .ret r | none => .go ()) : loopR c b N 0 () = match (List.range N).findSome? g with | some r => .ret r | none => .brk () := by
  have key : ∀ (m k : Nat), k + m = N → loopR c b (N - k) k () = (match (List.range' k m).findSome? g with | some r => .ret r | none => .brk ()) := by
    intro m
    induction m with
    | zero => intro k h; rw [show N - k = 0 by omega]; rfl
    | succ m ih =>
      intro k h
      rw [loopR_step (by omega) (hc k (by omega)), hb k (by omega), List.range'_succ, List.findSome?_cons]
      cases hg : g k with
      | some r => rfl
      | none => exact ih (k + 1) (by omega)
  rw [List.range_eq_range']
  exact key N 0 (by omega)
def okP (b : DBook) (l : Span) (k q : Nat) : Bool := isPl b k q && !decide (levelD b (laneF (q : Int) l (b.loads.getD k zLoad).w) < 2)
def nextP (b : DBook) (F : List Place → Span → Int → List Place × Bool) (on : List Place) (l : Span) (left : Int) (k q : Nat) : List Place × Bool := F (on ++ [(⟨(k : Int), (q : Int)⟩ : Place)]) (laneF (q : Int) l (b.loads.getD k zLoad).w) (offI left k)
def g2 (b : DBook) (F : List Place → Span → Int → List Place × Bool) (on : List Place) (l : Span) (left : Int) (k q : Nat) : Option (List Place × Bool) := bif okP b l k q && (nextP b F on l left k q).2 then some ((nextP b F on l left k q).1, true) else none
def g1 (b : DBook) (F : List Place → Span → Int → List Place × Bool) (on : List Place) (l : Span) (left : Int) (k : Nat) : Option (List Place × Bool) := if (bitI left k == 0) = true then none else (List.range 3).findSome? (g2 b F on l left k)
theorem driveS_eq (b : DBook) (F : List Place → Span → Int → List Place × Bool) (on : List Place) (l : Span) (left : Int) : driveS b F on l left = if left = 0 then (on, true) else ((List.range b.loads.length).findSome? (g1 b F on l left)).getD ([], false) := by
  have hcut : cut on 0 (on.length : Int) = on := by simp [cut]
  have hin : ∀ k : Nat, loopR (driveS_c2 b F on l left k) (driveS_b2 b F on l left k) 3 0 () = match (List.range 3).findSome? (g2 b F on l left k) with | some r => .ret r | none => .brk () := fun k => by
    refine (loopR_some (N := 3) (c := driveS_c2 b F on l left k) (b := driveS_b2 b F on l left k) (g2 b F on l left k) (fun q hq => by simp only [driveS_c2]; rw [decide_eq_true]; omega) (fun q hq => by
      simp only [driveS_b2, hcut, g2, okP, nextP, atP_eq, offI]
      cases isPl b (k : Int) (q : Int) with
      | false => rfl
      | true =>
        cases decide (levelD b (laneF (q : Int) l (b.loads.getD k zLoad).w) < 2) with
        | true => rfl
        | false =>
          simp only [Bool.not_true, Bool.or_self, cond_false, Bool.not_false, Bool.and_self, Bool.true_and]
          generalize F (on ++ [(⟨(k : Int), (q : Int)⟩ : Place)]) (laneF (q : Int) l (b.loads.getD k zLoad).w) _ = z
          obtain ⟨z1, z2⟩ := z
          cases z2 <;> rfl)).trans ?_
    cases (List.range 3).findSome? (g2 b F on l left k) <;> rfl
  unfold driveS
  by_cases h0 : left = 0
  · rw [if_pos h0, h0]; rfl
  · rw [if_neg h0, show (left == 0) = false from beq_eq_false_iff_ne.2 h0, cond_false]
    rw [loopR_some (c := driveS_c1 b F on l left) (b := driveS_b1 b F on l left) (g1 b F on l left) (fun k hk => by simp only [driveS_c1]; rw [decide_eq_true]; omega) (fun k hk => by
      simp only [driveS_b1, g1, hin k]
      show (bif bitI left k == 0 then _ else _) = _
      cases bitI left k == 0 with
      | true => simp
      | false =>
        simp only [cond_false, Bool.false_eq_true, if_false]
        cases (List.range 3).findSome? (g2 b F on l left k) <;> rfl)]
    cases (List.range b.loads.length).findSome? (g1 b F on l left) <;> rfl
theorem card0_all : ((List.range 32).all fun s : Nat => !(cardI s == 0) || s == 0) = true := by kernel_rfl
theorem card0 {left : Int} (h : LeftOk 0 left) : left = 0 := by
  have h1 := List.all_eq_true.1 card0_all left.toNat (List.mem_range.2 (by have := h.1; omega))
  have h2 := h.1
  rw [show ((left.toNat : Nat) : Int) = left by omega, show cardI left = 0 by have := h.2; omega] at h1
  simp only [beq_self_eq_true, Bool.not_true, Bool.false_or, beq_iff_eq] at h1
  omega
theorem bit0_all : ((List.range 5).all fun k : Nat => bitI 0 k == 0) = true := by kernel_rfl
end Go.Proofs.YthfnedbpmdkdjaaDoor.D
namespace Go.Proofs.YthfnedbpmdkdjaaDoor.D
open Go Go.RowKit Go.Proofs.YthfnedbpmdkdjaaDoor.Eng Go.Proofs.YthfnedbpmdkdjaaDoor.Cm
set_option linter.unusedVariables false
set_option linter.unusedSimpArgs false
set_option linter.unusedSectionVars false
def z0 (s k : Nat) : Bool := bitI (s : Int) k == 0
theorem or_bits_all : ((List.range 32).all fun s => (List.range 5).all fun k => (List.range 5).all fun j => (bitI (orI (s : Int) (k : Int)) j == 0) == (z0 s j && !(j == k))) = true := by kernel_rfl
theorem mem_bits_all : ((List.range 32).all fun s => (List.range 5).all fun j => memberF (s : Int) (j : Int) == !(z0 s j)) = true := by kernel_rfl
theorem all2 {p : Nat → Nat → Bool} {m n : Nat} (h : ((List.range m).all fun s => (List.range n).all fun k => p s k) = true) {s k : Nat} (hs : s < m) (hk : k < n) : p s k = true := List.all_eq_true.1 (List.all_eq_true.1 h s (List.mem_range.2 hs)) k (List.mem_range.2 hk)
theorem castN {s : Int} (h : 0 ≤ s) : ((s.toNat : Nat) : Int) = s := by omega
theorem or_bits {s : Int} {k j : Nat} (h : 0 ≤ s ∧ s < 32) (hk : k < 5) (hj : j < 5) : (bitI (orI s (k : Int)) j == 0) = ((bitI s j == 0) && !(j == k)) := by
  have h1 := List.all_eq_true.1 (all2 or_bits_all (s := s.toNat) (k := k) (by omega) hk) j (List.mem_range.2 hj)
  simp only [z0, castN h.1] at h1
  exact eq_of_beq h1
theorem mem_bits {s : Int} {j : Nat} (h : 0 ≤ s ∧ s < 32) (hj : j < 5) : memberF s (j : Int) = !(bitI s j == 0) := by
  have h1 := all2 mem_bits_all (s := s.toNat) (k := j) (by omega) hj
  simp only [z0, castN h.1] at h1
  exact eq_of_beq h1
structure SetIs (s : Int) (ls : List Int) : Prop where
  nd : ls.Nodup
  rng : ∀ x ∈ ls, 0 ≤ x ∧ x < 5
  mem : ∀ k : Nat, k < 5 → ((bitI s k == 0) = false ↔ (k : Int) ∈ ls)
theorem setIs_M {n s : Nat} (hn : n ≤ 5) (hs : s < 2 ^ n) : SetIs (s : Int) (M n s) := by
  have h32 := pow_lt hn hs
  have hlist : M n s = M 5 s := lift hn hs
  rw [hlist]
  refine ⟨(M_climb 5 s).up.imp fun h => by omega, fun x hx => by have := (M_climb 5 s).rng x hx; omega, fun k hk => ?_⟩
  unfold M
  rw [members_mem, mem_bits (by omega) hk, Bool.not_eq_true']
  exact ⟨fun h => ⟨by omega, by omega, h⟩, fun h => h.2.2⟩
end Go.Proofs.YthfnedbpmdkdjaaDoor.D
namespace Go.Proofs.YthfnedbpmdkdjaaDoor.D
open Go Go.RowKit Go.Proofs.YthfnedbpmdkdjaaDoor.Eng Go.Proofs.YthfnedbpmdkdjaaDoor.Cm
set_option linter.unusedVariables false
set_option linter.unusedSimpArgs false
set_option linter.unusedSectionVars false
theorem weight_eq (b : DBook) (s : Int) : weightD b s = (List.range b.loads.length).foldl (fun (v : Int) (k : Nat) => bif memberF s (k : Int) then IntKind.i64.wrap (v + (b.loads.getD k zLoad).w.hi) else v) 0 := by
  unfold weightD
  rw [loopR_foldl (c := weightD_c1 b s) (b := weightD_b1 b s) (fun k v => bif memberF s (k : Int) then IntKind.i64.wrap (v + (b.loads.getD k zLoad).w.hi) else v) (fun k v hk => by simp only [weightD_c1]; rw [decide_eq_true]; omega) (fun k v hk => rfl)]
end Go.Proofs.YthfnedbpmdkdjaaDoor.D
namespace Go.Proofs.YthfnedbpmdkdjaaDoor.D
open Go Go.RowKit Go.Proofs.YthfnedbpmdkdjaaDoor.Eng Go.Proofs.YthfnedbpmdkdjaaDoor.Cm
set_option linter.unusedVariables false
set_option linter.unusedSimpArgs false
set_option linter.unusedSectionVars false
theorem acc_bounds {b : DBook} (hv : ValidD b) {on : List Place} (hpl : ∀ x ∈ on, isPl b x.load x.lane = true) (hlen : on.length ≤ 5) : ∀ k : Nat, k ≤ on.length → -60 * (k : Int) ≤ (accD b on k).lo ∧ (accD b on k).lo ≤ (accD b on k).hi ∧ (accD b on k).hi ≤ 60 * (k : Int) := by
  intro k
  induction k with
  | zero => intro _; exact ⟨by show _ ≤ (0 : Int); omega, Int.le_refl _, by show (0 : Int) ≤ _; omega⟩
  | succ k ih =>
    intro hk
    obtain ⟨h1, h2, h3⟩ := ih (by omega)
    have hs := isPl_spec (hpl _ (getD_mem (z := zPlace) (show k < on.length by omega)))
    have hw := (hv.load (k := (on.getD k zPlace).load.toNat) (by omega)).1
    rw [accD_succ (by omega)]
    unfold stepD laneF
    by_cases e0 : (on.getD k zPlace).lane = 0
    · rw [if_pos e0]
      simp only [portD]
      rw [wrapI (by omega) (by omega), wrapI (by omega) (by omega)]
      omega
    · rw [if_neg e0]
      by_cases e1 : (on.getD k zPlace).lane = 1
      · rw [if_pos e1]; simp only [middleD]; omega
      · rw [if_neg e1]
        simp only [starD]
        rw [wrapI (by omega) (by omega), wrapI (by omega) (by omega)]
        omega
theorem rule_wrap {b : DBook} (hv : ValidD b) : IntKind.i64.wrap (0 - b.rule) = -b.rule := by
  have := hv.rule
  rw [wrapI (by omega) (by omega)]; omega
theorem level_cases {b : DBook} (hv : ValidD b) {l : Span} (h : l.lo ≤ l.hi) : (levelD b l = 2 ∧ -b.rule ≤ l.lo ∧ l.hi ≤ b.rule) ∨ (levelD b l = 1 ∧ ¬ (-b.rule ≤ l.lo ∧ l.hi ≤ b.rule) ∧ l.lo ≤ b.rule ∧ -b.rule ≤ l.hi) ∨ (levelD b l = 0 ∧ ¬ (-b.rule ≤ l.lo ∧ l.hi ≤ b.rule) ∧ (b.rule < l.lo ∨ l.hi < -b.rule)) := by
  have hr := hv.rule
  unfold levelD
  rw [rule_wrap hv]
  by_cases h2 : -b.rule ≤ l.lo ∧ l.hi ≤ b.rule
  · left
    have : (withinD l.lo (-b.rule) b.rule && withinD l.hi (-b.rule) b.rule) = true := by simp only [withinD, Bool.and_eq_true, decide_eq_true_eq]; omega
    rw [this]; exact ⟨rfl, h2⟩
  · right
    have : (withinD l.lo (-b.rule) b.rule && withinD l.hi (-b.rule) b.rule) = false := by
      rw [Bool.eq_false_iff]; intro h3
      simp only [withinD, Bool.and_eq_true, decide_eq_true_eq] at h3; omega
    rw [this, cond_false]
    by_cases h1 : l.lo ≤ b.rule ∧ -b.rule ≤ l.hi
    · left
      rw [decide_eq_true h1.1, decide_eq_true (show l.hi ≥ -b.rule from h1.2)]
      exact ⟨rfl, h2, h1⟩
    · right
      have : (decide (l.lo ≤ b.rule) && decide (l.hi ≥ -b.rule)) = false := by
        rw [Bool.eq_false_iff]; intro h3
        simp only [Bool.and_eq_true, decide_eq_true_eq] at h3
        exact h1 h3
      rw [this]; exact ⟨rfl, h2, by omega⟩
end Go.Proofs.YthfnedbpmdkdjaaDoor.D
namespace Go.Proofs.YthfnedbpmdkdjaaDoor.D
open Go Go.RowKit Go.Proofs.YthfnedbpmdkdjaaDoor.Eng Go.Proofs.YthfnedbpmdkdjaaDoor.Cm
set_option linter.unusedVariables false
set_option linter.unusedSimpArgs false
set_option linter.unusedSectionVars false
def updC (of : List Int) (c : Int) (k : Nat) : List Int := of.set c.toNat (orI (of.getD c.toNat 0) (k : Int))
def gC (F : List Int → List Int → List Int × Bool) (so of : List Int) (k : Nat) : Option (List Int × Bool) := bif (F (so ++ [(k : Int)]) (updC of (k : Int) so.length)).2 then some ((F (so ++ [(k : Int)]) (updC of (k : Int) so.length)).1, true) else none
theorem crossS_eq (b : DBook) (S : List (Int × Bool)) (F : List Int → List Int → List Int × Bool) (so of : List Int) : crossS b S F so of = if so.length = b.loads.length then (so, !(containsD S of)) else ((List.range of.length).findSome? (gC F so of)).getD ([], false) := by
  have hcut : cut so 0 (so.length : Int) = so := by simp [cut]
  unfold crossS
  by_cases h : so.length = b.loads.length
  · rw [if_pos h, h, beq_self_eq_true]; rfl
  · rw [if_neg h, show ((so.length : Int) == (b.loads.length : Int)) = false from beq_eq_false_iff_ne.2 (by omega), cond_false]
    rw [loopR_some (c := crossS_c1 b S F so of) (b := crossS_b1 b S F so of) (gC F so of) (fun k hk => by simp only [crossS_c1]; rw [decide_eq_true]; omega) (fun k hk => by
      simp only [crossS_b1, hcut, gC, updC, cloneL, cloneI, orI, show ((k : Int)).toNat = k by omega]
      generalize F (so ++ [(k : Int)]) _ = z
      obtain ⟨z1, z2⟩ := z
      cases z2 <;> rfl)]
    cases (List.range of.length).findSome? (gC F so of) <;> rfl
def maskF : Nat → List Int → Nat → Int → Int
  | _, [], _, s => s
  | k, c :: cs, j, s => maskF (k + 1) cs j (if c = (j : Int) then orI s (k : Int) else s)
theorem mask_bits : ∀ (cs : List Int) (k j : Nat) (s : Int), k + cs.length ≤ 5 → (0 ≤ s ∧ s < 32) → (0 ≤ maskF k cs j s ∧ maskF k cs j s < 32) ∧ ∀ i : Nat, i < 5 → ((bitI (maskF k cs j s) i == 0) = false ↔ (bitI s i == 0) = false ∨ (k ≤ i ∧ i < k + cs.length ∧ cs.getD (i - k) (-1) = (j : Int))) := by
  intro cs
  induction cs with
  | nil => intro k j s _ hs; exact ⟨hs, fun i _ => ⟨fun h => .inl h, fun h => h.elim id fun h => (by have := h.1; have := h.2.1; simp only [List.length_nil] at this; omega)⟩⟩
  | cons c cs ih =>
    intro k j s hk hs
    rw [List.length_cons] at hk
    have hs2 : 0 ≤ (if c = (j : Int) then orI s (k : Int) else s) ∧ (if c = (j : Int) then orI s (k : Int) else s) < 32 := by
      split
      · exact or_in hs (by omega)
      · exact hs
    obtain ⟨h1, h2⟩ := ih (k + 1) j _ (by omega) hs2
    refine ⟨h1, fun i hi => ?_⟩
    rw [maskF, h2 i hi, List.length_cons]
    have hbit : ((bitI (if c = (j : Int) then orI s (k : Int) else s) i == 0) = false) ↔ (bitI s i == 0) = false ∨ (c = (j : Int) ∧ i = k) := by
      split
      · rename_i e
        rw [or_bits hs (by omega) hi, Bool.and_eq_false_iff, Bool.not_eq_false', beq_iff_eq]
        exact ⟨fun h => h.imp id fun h => ⟨e, h⟩, fun h => h.imp id fun h => h.2⟩
      · rename_i e
        exact ⟨fun h => .inl h, fun h => h.elim id fun h => absurd h.1 e⟩
    rw [hbit]
    constructor
    · rintro ((h | ⟨h, rfl⟩) | ⟨h3, h4, h5⟩)
      · exact .inl h
      · exact .inr ⟨by omega, by omega, by simp [h]⟩
      · refine .inr ⟨by omega, by omega, ?_⟩
        rw [show i - k = (i - (k + 1)) + 1 by omega, List.getD_cons_succ]; exact h5
    · rintro (h | ⟨h3, h4, h5⟩)
      · exact .inl (.inl h)
      · by_cases e : i = k
        · subst e
          rw [Nat.sub_self, List.getD_cons_zero] at h5
          exact .inl (.inr ⟨h5, rfl⟩)
        · rw [show i - k = (i - (k + 1)) + 1 by omega, List.getD_cons_succ] at h5
          exact .inr ⟨by omega, by omega, h5⟩
theorem small_all : ((List.range 6).all fun n => (List.range 32).all fun s => decide (s < 2 ^ n) || (List.range 5).any fun k => decide (n ≤ k) && !(z0 s k)) = true := by kernel_rfl
theorem mask_spec {cs : List Int} (hn : cs.length ≤ 5) (j : Nat) : ∃ s : Nat, s < 2 ^ cs.length ∧ maskF 0 cs j 0 = (s : Int) ∧ crossingL cs (j : Int) = M cs.length s := by
  obtain ⟨h1, h2⟩ := mask_bits cs 0 j 0 (by omega) (by omega)
  have hz : ∀ i, i < 5 → (bitI 0 i == 0) = true := fun i hi => List.all_eq_true.1 bit0_all i (List.mem_range.2 hi)
  have h3 : ∀ i, i < 5 → ((bitI (maskF 0 cs j 0) i == 0) = false ↔ i < cs.length ∧ cs.getD i (-1) = (j : Int)) := fun i hi => by
    rw [h2 i hi, hz i hi]; simp
  refine ⟨(maskF 0 cs j 0).toNat, ?_, by omega, ?_⟩
  · have h4 := List.all_eq_true.1 (List.all_eq_true.1 small_all cs.length (List.mem_range.2 (by omega))) (maskF 0 cs j 0).toNat (List.mem_range.2 (by omega))
    rw [Bool.or_eq_true, decide_eq_true_eq] at h4
    rcases h4 with h4 | h4
    · exact h4
    · obtain ⟨k, hk, hb⟩ := List.any_eq_true.1 h4
      simp only [z0, castN h1.1, Bool.and_eq_true, decide_eq_true_eq, Bool.not_eq_true'] at hb
      have := (h3 k (List.mem_range.1 hk)).1 hb.2
      omega
  · unfold crossingL
    rw [loopR_app (c := crossingL_c1 cs (j : Int)) (b := crossingL_b1 cs (j : Int)) (fun k : Nat => bif (cs.getD k 0 == (j : Int)) then [(k : Int)] else []) (fun k v hk => by simp only [crossingL_c1]; rw [decide_eq_true]; omega) (fun k v hk => by
      simp only [crossingL_b1]
      cases (cs.getD k 0 == (j : Int)) <;> simp)]
    unfold M
    rw [members_eq, castN h1.1]
    simp only [List.nil_append]
    have : ∀ (ks : List Nat), (∀ k ∈ ks, k < cs.length) → (ks.flatMap fun k : Nat => bif (cs.getD k 0 == (j : Int)) then [(k : Int)] else []) = (ks.filter fun k : Nat => memberF (maskF 0 cs j 0) (k : Int)).map fun k : Nat => (k : Int) := by
      intro ks
      induction ks with
      | nil => intro _; rfl
      | cons k ks ih =>
        intro hk
        have hk1 := hk k List.mem_cons_self
        rw [List.flatMap_cons, ih fun i hi => hk i (List.mem_cons_of_mem _ hi), List.filter_cons]
        have hm : memberF (maskF 0 cs j 0) (k : Int) = (cs.getD k 0 == (j : Int)) := by
          rw [mem_bits h1 (by omega), Bool.eq_iff_iff, Bool.not_eq_true', beq_iff_eq, h3 k (by omega)]
          have hgd : cs.getD k (-1) = cs.getD k 0 := by
            rw [List.getD_eq_getElem?_getD, List.getD_eq_getElem?_getD, List.getElem?_eq_getElem hk1]; rfl
          rw [hgd]
          exact ⟨fun h => h.2, fun h => ⟨hk1, h⟩⟩
        rw [hm]
        cases (cs.getD k 0 == (j : Int)) <;> simp
    exact this _ fun k hk => List.mem_range.1 hk
theorem M_empty {n s : Nat} (hn : n ≤ 5) (hs : s < 2 ^ n) : (M n s).length = 0 ↔ s = 0 := by
  constructor
  · intro h
    have h1 := set_M hn hs
    rw [List.length_eq_zero_iff.1 h] at h1
    have h2 : (0 : Int) = (s : Int) := h1
    omega
  · rintro rfl
    rw [lift hn hs]; rfl
def setsB (b : DBook) : List (Int × Bool) := (List.range (2 ^ b.loads.length)).map fun k : Nat => ((k : Int), togetherD b (k : Int))
theorem sets_at {b : DBook} {s : Nat} (hs : s < 2 ^ b.loads.length) : atI (setsB b) stK stV (s : Int) = togetherD b (s : Int) := by
  unfold atI setsB
  rw [List.find?_map]
  have : (List.range (2 ^ b.loads.length)).find? ((fun x : Int × Bool => stK x == (s : Int)) ∘ fun k : Nat => ((k : Int), togetherD b (k : Int))) = some s := by
    rw [List.find?_range_eq_some]
    refine ⟨by simp, List.mem_range.2 hs, fun j hj => ?_⟩
    simp only [Function.comp, Bool.not_eq_true', beq_eq_false_iff_ne]
    show ¬ ((j : Int) = (s : Int))
    omega
  rw [this]; rfl
theorem contains_iff (S : List (Int × Bool)) (of : List Int) : containsD S of = false ↔ ∀ j, j < of.length → badD S (of.getD j 0) = false := by
  unfold containsD indexD
  rw [loopR_find (c := indexD_c1 S of) (b := indexD_b1 S of) (fun j => badD S (of.getD j 0)) (fun j => (j : Int)) (fun j hj => by simp only [indexD_c1]; rw [decide_eq_true]; omega) (fun j hj => rfl)]
  cases hf : (List.range of.length).find? fun j => badD S (of.getD j 0) with
  | none =>
    refine ⟨fun _ j hj => ?_, fun _ => rfl⟩
    have := List.find?_eq_none.1 hf j (List.mem_range.2 hj)
    simpa using this
  | some i =>
    have h1 := List.find?_some hf
    have h2 := List.mem_range.1 (List.mem_of_find?_eq_some hf)
    refine ⟨fun h => ?_, fun h => ?_⟩
    · simp only [decide_eq_false_iff_not] at h; omega
    · rw [h i h2] at h1; cases h1
theorem fewest_bad {b : DBook} (h : checkD b = 30) : fewestA b = ([], 30) := by
  unfold fewestA
  rw [h]; rfl
end Go.Proofs.YthfnedbpmdkdjaaDoor.D
namespace Go.Proofs.YthfnedbpmdkdjaaDoor.Eng
open Go Go.RowKit
set_option linter.unusedVariables false
set_option linter.unusedSimpArgs false
def copyA (s : AS) : List Oper → Option (AV × AV × TypeId × Option Tmp)
  | o :: _ => match o.op, o.guard with
    | .call c, none => match c.callee, c.args.toList, c.argTypes.toList with
      | .builtin .copy, [x, y], [t, t'] => match ev s [] x, ev s [] y with
        | some u, some v => bif Nat.beq t t' then some (u, v, t, o.dst) else none
        | _, _ => none
      | _, _, _ => none
    | _, _ => none
  | [] => none
theorem rep_same : ∀ {l : List (Nat × HE)} {id : Nat} {e : HE}, fnd l id = some e → rep l id e = l
  | [], _, _, h => by cases h
  | x :: r, id, e, h => by
    unfold fnd at h
    unfold rep
    cases hb : Nat.beq x.1 id with
    | true => rw [hb, cond_true] at h; cases h; rfl
    | false => rw [hb, cond_false] at h; rw [cond_false, rep_same h]
theorem flat_drop1 {α : Type} {enc : α → List Value} (h : ∀ y, (enc y).length = 1) : ∀ (li : List α) (k : Nat), flat (li.drop k) enc = (flat li enc).drop k
  | _, 0 => rfl
  | [], k + 1 => rfl
  | x :: r, k + 1 => by
    have : flat (x :: r) enc = enc x ++ flat r enc := rfl
    rw [List.drop_succ_cons, flat_drop1 h r k, this, List.drop_append, h, List.drop_of_length_le (l := enc x) (by rw [h]; omega), show k + 1 - 1 = k by omega, List.nil_append]
theorem enc_oneE {α : Type} {li : List α} {enc : α → List Value} (h1 : ∀ y, ∀ v ∈ enc y, v.oneCell' = true) : ∀ u ∈ flat li enc, u.oneCell' = true := fun u hu => by
  obtain ⟨y, _, hy⟩ := List.mem_flatMap.1 hu
  exact h1 y u hy
section
variable {P : Program} {tt : TT} {cx : Cx} {s s' : AS} {Q : Exit → AS → Prop} {ops : Array Oper} {l : List Oper}
theorem MKSB (hT : TTok P tt) (B : Nat) (t e : TypeId) (x : Int) (d : Option Tmp) {α : Type} (enc : α → List Value) (z : α) (v : Value) (h : mksA s l = some (t, x, x, d)) (ht : isSlK tt t e = true) (hz : enc z = [v]) (henc : ∀ y, (enc y).length = 1)
    (hi : (tyL tt e).map (fun i => (i.size, i.zero.cells, Nat.ble i.bytes B)) = some (1, #[v], true)) (hx : 0 ≤ x ∧ (B : Int) * x ≤ 281474976710656 ∧ x ≤ 9223372036854775807)
    (hp : ((s.add (.sl .own e 1 (List.replicate x.toNat z) enc z)).put d [] (.s (.ref s.nx))).isSome = true) (hK : WPO P cx ops l.tail (((s.add (.sl .own e 1 (List.replicate x.toNat z) enc z)).put d [] (.s (.ref s.nx))).getD s) Q) : WPO P cx ops l s Q := fun n a w hs => by
  cases l with
  | nil => cases h
  | cons o rest =>
    obtain ⟨s', hs'⟩ := Option.isSome_iff_exists.1 hp
    rw [hs'] at hK
    simp only [mksA] at h
    split at h <;> try (cases h; done)
    rename_i t' a' b' ho hg
    split at h <;> try (cases h; done)
    rename_i k1 x1 k2 x2 ha hb
    simp only [Option.some.injEq, Prod.mk.injEq] at h
    obtain ⟨rfl, h1, h2, rfl⟩ := h
    rw [h1] at ha
    rw [h2] at hb
    have hH : Holds a [] := fun x hx => by cases hx
    obtain ⟨e1, _⟩ := ev_sound hs.env hH ha
    obtain ⟨e2, _⟩ := ev_sound hs.env hH hb
    obtain ⟨tti, htt, htd⟩ := Option.map_eq_some_iff.1 (isSlK_spec ht)
    obtain ⟨F⟩ := hT.get htt
    have hd : F.desc = .slice e := by
      have := F.td
      rw [htd] at this
      cases hd : F.desc <;> rw [hd] at this <;> simp only [tdOf] at this <;> first
        | (cases this; done)
        | (injection this with h; rw [h])
    obtain ⟨ei, hei, he⟩ := Option.map_eq_some_iff.1 hi
    simp only [Prod.mk.injEq] at he
    obtain ⟨he1, he2, he3⟩ := he
    have hby := Nat.le_of_ble_eq_true he3
    obtain ⟨G⟩ := hT.get hei
    have hgb : G.info.bytes = ei.bytes := G.bytes
    have hgs : G.info.size = ei.size := G.size
    have hmul : (G.info.bytes : Int) * x ≤ 281474976710656 := by
      rw [hgb]
      have h1 : (ei.bytes : Int) * x ≤ B * x := Int.mul_le_mul_of_nonneg_right (by omega) hx.1
      exact Int.le_trans h1 hx.2.1
    have hr := run_make (P := P) w t' e G.info ei.zero (by rw [F.hdesc, hd]) G.hinfo G.zero k1 k2 x x hx.1 (Int.le_refl _) hmul (by omega)
    have hrun : (execOp a.eval o).run P w = .ok (.value (.slice (some ⟨w.heap.size, 0, none⟩) x.toNat x.toNat)) (w.alloc (.cells (madeCells ei.zero.cells (x.toNat * G.info.size)) e)) := by
      unfold execOp
      rw [ho]
      simp only [e1, e2, AV.c, AC.c, Sem.run_bind, hr, Result.andThen_ok, Sem.run_pure]
    have how := World.ownsRow_lit (base := 0) (e := e) (size := 1) w (madeCells ei.zero.cells (x.toNat * G.info.size)) x.toNat (Nat.zero_le _) (by simp only [maxLen]; omega) (by rw [size_madeCells, hgs, he1])
    rw [he2, toList_madeCells_one, hgs, he1, Nat.mul_one, ← flat_one hz] at how
    have hh := hs.heap.add (e := .sl .own e 1 (List.replicate x.toNat z) enc z) (v := .slice (some ⟨w.heap.size, 0, none⟩) x.toNat x.toNat) (w' := w.alloc (.cells (madeCells ei.zero.cells (x.toNat * G.info.size)) e))
      ((Below.refl _ w).alloc (Nat.le_refl _) _) rfl ⟨henc, fun g hg => (by cases hg; exact hs.heap.fr.news _ hs.heap.fr.size), by rw [List.length_replicate, he2, hgs, he1, Nat.mul_one]; exact how⟩ trivial (fun g' hg' => (by cases hg'; simp)) (fun g' hg' => (by cases hg'; exact .inl (Nat.le_refl _)))
    exact wp_value (wanted_none (ops := ops) hg) hrun (hK _ _ _ (put_sat (env_add hs (upd_lt n s.nx _) hh) hs' (fun _ => ⟨by simp only [AV.c, AC.c, upd_same], Nat.lt_succ_self _⟩) (fun hn => absurd hH hn)))
theorem COPY (hT : TTok P tt) (i j : Nat) (t e : TypeId) (d : Option Tmp) {α : Type} (li src : List α) (enc : α → List Value) (z : α) (k : SK) (h : copyA s l = some (.s (.ref i), .s (.ref j), t, d)) (ht : (isSlK tt t e && isSz tt e 1) = true)
    (hfi : fnd s.hp i = some (.sl .own e 1 li enc z)) (hfj : fnd s.hp j = some (.sl k e 1 src enc z)) (hl : src.length ≤ li.length) (h1 : ∀ y, ∀ v ∈ enc y, v.oneCell' = true)
    (hp : (AS.put { s with hp := rep s.hp i (.sl .own e 1 (src ++ li.drop src.length) enc z) } d [] (.s (.int .i64 (src.length : Int)))).isSome = true) (hK : WPO P cx ops l.tail ((AS.put { s with hp := rep s.hp i (.sl .own e 1 (src ++ li.drop src.length) enc z) } d [] (.s (.int .i64 (src.length : Int)))).getD s) Q) : WPO P cx ops l s Q := by
  obtain ⟨s', hs'⟩ := Option.isSome_iff_exists.1 hp
  rw [hs'] at hK
  simp only [Bool.and_eq_true] at ht
  cases l with
  | nil => cases h
  | cons o rest =>
    simp only [copyA] at h
    split at h <;> try (cases h; done)
    rename_i c ho hg
    split at h <;> try (cases h; done)
    rename_i x y t1 t2 hc hargs htys
    split at h <;> try (cases h; done)
    rename_i u v hu hv
    rcases hbt : Nat.beq t1 t2 with _ | _
    · rw [hbt] at h; cases h
    · rw [hbt] at h
      simp only [cond_true, Option.some.injEq, Prod.mk.injEq] at h
      obtain ⟨rfl, rfl, rfl, rfl⟩ := h
      have htt := Nat.eq_of_beq_eq_true hbt
      subst htt
      intro n a w hs
      have hw : Region.wanted o (yielded ops a.tmps) = true := by simp [Region.wanted, hg]
      have hH : Holds a [] := fun x hx => by cases hx
      obtain ⟨tti, htt, htd⟩ := Option.map_eq_some_iff.1 (isSlK_spec ht.1)
      obtain ⟨ei, hee, hes⟩ := Option.map_eq_some_iff.1 (isSz_spec ht.2)
      obtain ⟨F⟩ := hT.get htt
      obtain ⟨G⟩ := hT.get hee
      have hd : F.desc = .slice e := by
        have := F.td
        rw [htd] at this
        cases hd : F.desc <;> rw [hd] at this <;> simp only [tdOf] at this <;> first
          | (cases this; done)
          | (injection this with h; rw [h])
      have hinf : (P.info? e).map (·.size) = some 1 := by rw [G.hinfo]; simp [G.size, hes]
      have hund : P.underlying t1 = some (.slice e) := by rw [F.hdesc, hd]
      obtain ⟨e1, _⟩ := ev_sound hs.env hH hu
      obtain ⟨e2, _⟩ := ev_sound hs.env hH hv
      have hop : ∀ bv sv : Value, a.eval x = bv → a.eval y = sv → ∀ v' w', (Builtin.copy_ #[t1, t1] o.type #[bv, sv]).run P w = .ok v' w' → (execOp a.eval o).run P w = .ok (.value v') w' := fun bv sv hbv hsv v' w' hr => by
        have hargs' : c.args.map a.eval = #[bv, sv] := by
          apply Array.ext'
          simp [hargs, hbv, hsv]
        have htys' : c.argTypes = #[t1, t1] := by
          apply Array.ext'
          simpa using htys
        unfold execOp
        rw [ho]
        simp only [resolve, hc, hargs', htys', Sem.run_bind, Sem.run_pure, Result.andThen_ok, invoke, builtin, hr]
      obtain ⟨henc, hokg, hlen, hown⟩ := hs.heap.ents _ (fnd_mem hfi)
      have hrd := hs.heap.reads hfj
      obtain ⟨A, cp, hsv, hcl, hcm0, hA⟩ := hrd
      have e2' : a.eval y = .slice A src.length cp := by rw [e2]; simp only [AV.c, AC.c, hsv]
      rcases hs0 : src with _ | ⟨x0, xr⟩
      · subst hs0
        have hsame : rep s.hp i (.sl .own e 1 (([] : List α) ++ li.drop ([] : List α).length) enc z) = s.hp := rep_same hfi
        rw [hsame] at hs'
        have hn : ∃ A2 c2, a.eval x = .slice A2 li.length c2 := by
          rw [e1]
          simp only [AV.c, AC.c]
          rcases hown with ⟨h5, h6⟩ | ⟨g, cap, cur, hvn, _⟩
          · exact ⟨none, 0, by rw [h5, h6]⟩
          · exact ⟨_, _, hvn⟩
        obtain ⟨A2, c2, hx2⟩ := hn
        exact wp_value hw (hop _ _ hx2 e2' _ _ (run_copy_none (P := P) w t1 t1 o.type e A2 A li.length c2 0 cp hund hinf (Nat.min_eq_left (Nat.zero_le _)))) (hK _ _ _ (put_sat (s := s) hs hs' (fun _ => ⟨rfl, trivial⟩) (fun hn => absurd hH hn)))
      · have hpos : 0 < src.length := by rw [hs0]; simp
        obtain ⟨ad, rfl, hcell⟩ := hA hpos
        rcases hown with ⟨_, h0⟩ | ⟨g, cap, cur, hvn, _, hheap, hnc, hcm, hcs, htk⟩
        · omega
        have hok : cx.ok g := hokg g (by rw [hvn]; rfl)
        have hsrc : ∀ j' u, (flat src enc)[j']? = some u → w.cell? (ad.add j') = some u := fun j' u hu' => by
          have hjl : j' < src.length := by
            have := (List.getElem?_eq_some_iff.1 hu').1
            rw [flat_lenE henc] at this
            omega
          have h1 := hcell j' hjl 0 (by omega)
          have h2 := flat_get henc z src j' 0 hjl (by omega)
          simp only [Nat.mul_one, Nat.add_zero] at h1 h2
          rw [h1, ← h2, hu']
        have hfl : (flat src enc).length = src.length := by rw [flat_lenE henc, Nat.mul_one]
        have hfli : (flat li enc).length = li.length := by rw [flat_lenE henc, Nat.mul_one]
        have hcur : cur.toList = flat li enc ++ cur.toList.drop li.length := by
          rw [Nat.mul_one] at htk; rw [← htk, List.take_append_drop]
        have hsz : cur.toList.length = cap := by rw [Array.length_toList, hcs, Nat.mul_one]
        have e1' : a.eval x = .slice (some ⟨g, 0, none⟩) li.length cap := by rw [e1]; simp only [AV.c, AC.c, hvn]
        have hrun := run_copy_row (P := P) w t1 t1 o.type e g 0 li.length cap ad src.length cp cur e (flat src enc) hund hinf hheap (by rw [hfl]; exact (Nat.min_eq_left hl).symm) hsrc (by rw [hfl, hcs]; omega) (enc_oneE h1)
        obtain ⟨cur', hc'⟩ : ∃ c', c' = (cur.toList.take 0 ++ flat src enc ++ cur.toList.drop (0 + (flat src enc).length)).toArray := ⟨_, rfl⟩
        rw [← hc'] at hrun
        have hnewl : cur'.toList = flat (src ++ li.drop src.length) enc ++ cur.toList.drop li.length := by
          rw [hc', hfl]
          simp only [List.take_zero, List.nil_append, Nat.zero_add]
          conv => lhs; rw [hcur]
          rw [flat_append, flat_drop1 henc, List.drop_append_of_le_length (by omega), List.append_assoc]
        have hll : (src ++ li.drop src.length).length = li.length := by rw [List.length_append, List.length_drop]; omega
        have hsize : cur'.size = cap * 1 := by
          rw [← Array.length_toList, hnewl, List.length_append, flat_lenE henc, hll, List.length_drop, hsz]; omega
        have hflN : (flat (src ++ li.drop src.length) enc).length = li.length := by rw [flat_lenE henc, hll, Nat.mul_one]
        have hsat : (HE.sl .own e 1 (src ++ li.drop src.length) enc z).sat n cx.ok (w.setRow g cur') (n i) := by
          refine ⟨henc, hokg, by rw [hflN, hll, Nat.mul_one], .inr ⟨g, cap, cur', by rw [hll]; exact hvn, Nat.zero_le _, setRow_heap w g _ _ e _ hheap, by rw [hll]; exact hnc, hcm, hsize, ?_⟩⟩
          rw [hnewl, hll, Nat.mul_one, ← hflN, List.take_left]
        have hwr := hs.heap.write (w' := w.setRow g cur') hfi rfl (g := g) (by simp only [HE.foot, hvn, vblk]) (e := .sl .own e 1 (src ++ li.drop src.length) enc z) rfl (fun _ => rfl) (by show li.length ≤ (src ++ li.drop src.length).length; rw [hll]; exact Nat.le_refl _) hok
          (fun k hk => setRow_other w g k _ hk) (setRow_size _ _ _) rfl rfl rfl hsat trivial
        have hst : Sat cx n { s with hp := rep s.hp i (.sl .own e 1 (src ++ li.drop src.length) enc z) } a (w.setRow g cur') := by
          refine env_hp hs ⟨Nat.le_refl _, fun i2 _ e' he' => ?_⟩ hwr
          by_cases hid : i2 = i
          · subst hid
            have : fnd (rep s.hp i2 (.sl .own e 1 (src ++ li.drop src.length) enc z)) i2 = some _ := fnd_rep_eq hfi
            rw [this] at he'
            cases he'
            exact ⟨_, hfi, by show li.length ≤ (src ++ li.drop src.length).length; rw [hll]; exact Nat.le_refl _⟩
          · exact ⟨e', by rw [← fnd_rep_ne (e := .sl .own e 1 (src ++ li.drop src.length) enc z) hid]; exact he', Nat.le_refl _⟩
        rw [hfl] at hrun
        exact wp_value hw (hop _ _ e1' e2' _ _ hrun) (hK _ _ _ (put_sat hst hs' (fun _ => ⟨rfl, trivial⟩) (fun hn => absurd hH hn)))
end
end Go.Proofs.YthfnedbpmdkdjaaDoor.Eng
namespace Go.Proofs.YthfnedbpmdkdjaaDoor.Eng
open Go Go.RowKit
set_option linter.unusedVariables false
set_option linter.unusedSimpArgs false
section
variable {P : Program} {tt : TT} {cx : Cx} {s s0 s' : AS} {Q : Exit → AS → Prop} {ops : Array Oper} {l : List Oper}
theorem H_three (i j k : Nat) {fuel : Nat} {listed : Array Bool} (hr : Region.ready .any ops listed = [i, j, k]) (hi : (opAt ops i).isEmpty = false) (hj : (opAt ops j).isEmpty = false) (hk : (opAt ops k).isEmpty = false)
    (h1 : Fz s0 s → ∀ cx' : Cx, cx'.w0 = cx.w0 → (cx'.ok = cx.ok ∧ (∀ id, id < cx.m0 → cx'.n0 id = cx.n0 id) ∧ cx.m0 ≤ cx'.m0) → WPO P cx' ops (opAt ops i) s (fun e s' => e = .normal ∧ Fz s0 s' ∧ WPH P cx ops s0 fuel (listed.setIfInBounds i true) s' Q))
    (h2 : Fz s0 s → ∀ cx' : Cx, cx'.w0 = cx.w0 → (cx'.ok = cx.ok ∧ (∀ id, id < cx.m0 → cx'.n0 id = cx.n0 id) ∧ cx.m0 ≤ cx'.m0) → WPO P cx' ops (opAt ops j) s (fun e s' => e = .normal ∧ Fz s0 s' ∧ WPH P cx ops s0 fuel (listed.setIfInBounds j true) s' Q))
    (h5 : Fz s0 s → ∀ cx' : Cx, cx'.w0 = cx.w0 → (cx'.ok = cx.ok ∧ (∀ id, id < cx.m0 → cx'.n0 id = cx.n0 id) ∧ cx.m0 ≤ cx'.m0) → WPO P cx' ops (opAt ops k) s (fun e s' => e = .normal ∧ Fz s0 s' ∧ WPH P cx ops s0 fuel (listed.setIfInBounds k true) s' Q)) : WPH P cx ops s0 (fuel + 1) listed s Q := fun hfz n0 h3 h4 one n a w hst hS => by
  refine wpAnyH_all hr (by simp) fun q hq0 => ?_
  have key : ∀ i, (opAt ops i).isEmpty = false → (Fz s0 s → ∀ cx' : Cx, cx'.w0 = cx.w0 → (cx'.ok = cx.ok ∧ (∀ id, id < cx.m0 → cx'.n0 id = cx.n0 id) ∧ cx.m0 ≤ cx'.m0) → WPO P cx' ops (opAt ops i) s (fun e s' => e = .normal ∧ Fz s0 s' ∧ WPH P cx ops s0 fuel (listed.setIfInBounds i true) s' Q)) →
      wpOp P ops (PN cx Q) i (fun a' w' => HSat (cxAt cx n0 s0.nx) n0 s0 w' ∧ wpAnyH P .any ops (PN cx Q) (HSat (cxAt cx n0 s0.nx) n0 s0) fuel (listed.setIfInBounds i true) a' w') a w := fun i hi h => by
    obtain ⟨o, ho⟩ : ∃ o, ops[i]? = some o := by
      unfold opAt at hi
      cases ho : ops[i]? with
      | none => rw [ho] at hi; cases hi
      | some o => exact ⟨o, rfl⟩
    have hl1 : opAt ops i = [o] := by unfold opAt; rw [ho]; rfl
    have := h hfz (cxAt cx n0 s0.nx) rfl ⟨rfl, h3, h4⟩ n a w hst
    rw [hl1] at this
    unfold wpOp
    rw [ho]
    simp only
    have hk : ∀ a w, Post (cxAt cx n0 s0.nx) (fun e s' => e = .normal ∧ Fz s0 s' ∧ WPH P cx ops s0 fuel (listed.setIfInBounds i true) s' Q) .normal a w →
        (HSat (cxAt cx n0 s0.nx) n0 s0 w ∧ wpAnyH P .any ops (PN cx Q) (HSat (cxAt cx n0 s0.nx) n0 s0) fuel (listed.setIfInBounds i true) a w) := fun a w ⟨n', s', ⟨_, hfz, hw⟩, hs'⟩ => by
      have hS' := hs'.heap.less hfz hS
      exact ⟨hS', hw hfz n0 h3 h4 one n' a w hs' hS'⟩
    have hq : ∀ c a w, ¬ Post (cxAt cx n0 s0.nx) (fun e s' => e = .normal ∧ Fz s0 s' ∧ WPH P cx ops s0 fuel (listed.setIfInBounds i true) s' Q) (.panic c) a w := fun c a w ⟨_, _, h, _⟩ => by cases h.1
    have hl : ¬ LetsOut (Post (cxAt cx n0 s0.nx) (fun e s' => e = .normal ∧ Fz s0 s' ∧ WPH P cx ops s0 fuel (listed.setIfInBounds i true) s' Q)) := fun h => by
      obtain ⟨_, _, _, _, h, _⟩ := h
      cases h.1
    unfold wpList at this
    split
    · rename_i hw
      rw [if_pos hw] at this
      rcases this with h | h
      · exact .inl (wp_mono2 (fun a w h => hk a w h) hq hl h)
      · exact absurd h.2 hl
    · rename_i hw
      rw [if_neg hw] at this
      exact hk _ _ this
  rcases List.mem_cons.1 hq0 with rfl | hq1
  · exact key _ hi h1
  · rcases List.mem_cons.1 hq1 with rfl | hq2
    · exact key _ hj h2
    · rw [List.mem_singleton.1 hq2]; exact key _ hk h5
end
end Go.Proofs.YthfnedbpmdkdjaaDoor.Eng
namespace Go.Proofs.YthfnedbpmdkdjaaDoor.D
open Go Go.RowKit Go.Proofs.YthfnedbpmdkdjaaDoor.Eng Go.Proofs.YthfnedbpmdkdjaaDoor.Cm
set_option linter.unusedVariables false
set_option linter.unusedSimpArgs false
set_option linter.unusedSectionVars false
def grownF (l : List Int) (n : Int) : (List Int) :=
  (l ++ (List.replicate (IntKind.i64.wrap ((l.length : Int) + 1)).toNat 0).drop l.length).set (l.length : Int).toNat n
theorem grownF_calls (g0 : Value) (l : List Int) (n : Int) (w : World) (r0 : Reads w g0 1 l encI 0) (hgl : l.length * 8 ≤ 140737488355328) : Calls Tryd.prog 124 #[g0, iv n] w fun e w' => ∃ v0, e = .returned (v0) ∧ Below w.heap.size w w' ∧ w'.ownsRow w.heap.size 3 1 v0 (grownF l n).length (flat (grownF l n) encI) := by
  refine calls_of_WP (cx := cx0 w (vn [g0]) 1) (n := vn [g0]) (vs := [.s (.ref 0), .s (.int .i64 n)]) (hp := [(0, .sl .ro 3 1 l encI 0)]) (nx := 1) tt_ok Tryd.func124 rfl rfl rfl (by kernel_rfl) (HSat_args (vn_one (by simp [r0.one])) (Nat.le_refl _) ⟨⟨⟨fun _ => rfl, by decide, r0⟩, (Nat.le_of_ble_eq_true rfl)⟩, trivial⟩) (vsOk (by kernel_rfl)) ?_
  have hl0 := Reads.len r0
  refine WP_seq (WP_region (WPO_all tt_ok (by kernel_rfl) ?_))
  refine WP_seq (WP_region (WPO_run tt_ok 3 (by kernel_rfl) ?_))
  refine MKSB tt_ok 8 33 3 (IntKind.i64.wrap ((l.length : Int) + 1)) (some 9) encI 0 (.int .i64 0) (by kernel_rfl) (by kernel_rfl) rfl (fun _ => rfl) (by kernel_rfl) (by rw [wrapI (by omega) (by omega)]; omega) (by kernel_rfl) ?_
  refine WPO_all tt_ok (by kernel_rfl) ?_
  refine WP_seq (WP_region (WPO_run tt_ok 2 (by kernel_rfl) ?_))
  refine COPY tt_ok 1 0 33 3 (some 12) (List.replicate (IntKind.i64.wrap ((l.length : Int) + 1)).toNat 0) l encI 0 .ro (by kernel_rfl) (by kernel_rfl) (by kernel_rfl) (by kernel_rfl) (by rw [List.length_replicate, wrapI (by omega) (by omega)]; omega) (fun y => List.all_eq_true.1 rfl) (by kernel_rfl) ?_
  refine WPO_nil ?_
  refine WP_seq (WP_region (WPO_run tt_ok 4 (by kernel_rfl) ?_))
  refine IX tt_ok (l.length : Int) (l ++ (List.replicate (IntKind.i64.wrap ((l.length : Int) + 1)).toNat 0).drop l.length).length [] (by kernel_rfl) (fun hG => (by rw [List.length_append, List.length_drop, List.length_replicate, wrapI (by omega) (by omega)]; omega)) ?_
  refine EST tt_ok 1 (l.length : Int) 1 0 3 3 (l ++ (List.replicate (IntKind.i64.wrap ((l.length : Int) + 1)).toNat 0).drop l.length) encI 0 n (.s (.int .i64 n)) (by kernel_rfl) (by kernel_rfl) (by kernel_rfl) (by kernel_rfl) (by rw [List.length_append, List.length_drop, List.length_replicate, wrapI (by omega) (by omega)]; omega) (fun n => rfl) ?_
  refine WPO_nil ?_
  refine WP_seq (WP_region (WPO_all tt_ok (by kernel_rfl) ?_))
  refine WP_ret ?_
  exact ⟨.s (.ref 1), by kernel_rfl, fun nV w' h => ⟨nV 1, rfl, h.bel, by rw [show grownF l n = ((l ++ (List.replicate (IntKind.i64.wrap ((l.length : Int) + 1)).toNat 0).drop l.length).set (l.length : Int).toNat n) from rfl]; exact own_of (z := 0) h (by kernel_rfl)⟩⟩
theorem grown_eq {l : List Int} (h : l.length ≤ 9223372036854775806) (n : Int) : grownF l n = l ++ [n] := by
  unfold grownF
  rw [wrapI (by omega) (by omega), show ((l.length : Int) + 1).toNat = l.length + 1 by omega, List.drop_replicate, show l.length + 1 - l.length = 1 by omega, Int.toNat_natCast, List.set_append_right _ _ (Nat.le_refl _), Nat.sub_self]
  rfl
theorem grown_len (l : List Int) (h : l.length ≤ 9223372036854775806) (n : Int) : (grownF l n).length = l.length + 1 := by rw [grown_eq h]; simp
def checkR_c1 (b : DBook) (k1 : Nat) : Bool → Bool := fun v1_1 => v1_1 && (decide ((k1 : Int) < (b.loads.length : Int)))
def checkR_b1 (b : DBook) (k1 : Nat) : Bool → Bd Bool Int := fun v1_1 => .go (((validF (b.loads.getD k1 zLoad).w 1 60) && (decide ((IntKind.i64.wrap ((b.loads.getD k1 zLoad).w.hi - (b.loads.getD k1 zLoad).w.lo)) ≤ 4))) && (insideF (b.loads.getD k1 zLoad).lanes 1 7))
def checkR (b : DBook) : Int :=
  (match loopR (checkR_c1 b) (checkR_b1 b) b.loads.length 0 (((insideF (b.loads.length : Int) 1 5) && (insideF b.rule 0 30)) && (insideF b.most 1 200)) with | .brk u1_0 => (bif !u1_0 then 30 else 0) | .ret r => r)
theorem checkR_calls (g0 : Value) (b : DBook) (w : World) (r0 : Reads w g0 3 b.loads encLoad zLoad)  : Calls Tryd.prog 74 #[.agg #[g0, iv b.rule, iv b.most]] w fun e w' => e = .returned (iv (checkR b)) ∧ Below w.heap.size w w' := by
  refine calls_of_WP (cx := cx0 w (vn [g0]) 1) (n := vn [g0]) (vs := [.g [.ref 0, .int .i64 b.rule, .int .i64 b.most]]) (hp := [(0, .sl .ro 61 3 b.loads encLoad zLoad)]) (nx := 1) tt_ok Tryd.func74 rfl rfl rfl (by kernel_rfl) (HSat_args (vn_one (by simp [r0.one])) (Nat.le_refl _) ⟨⟨⟨fun _ => rfl, by decide, r0⟩, (Nat.le_of_ble_eq_true rfl)⟩, trivial⟩) (vsOk (by kernel_rfl)) ?_
  have hl0 := Reads.len r0
  refine WP_seq (WP_region (WPO_all tt_ok (by kernel_rfl) ?_))
  refine WP_seq (WP_region (WPO_run tt_ok 3 (by kernel_rfl) ?_))
  refine CALL 34 [.s (.int .i64 (b.loads.length : Int)), .s (.int .i64 1), .s (.int .i64 5)] (.s (.bool (insideF (b.loads.length : Int) 1 5))) [] (by kernel_rfl) (goes_of (by kernel_rfl)) (by kernel_rfl) (by kernel_rfl) (fun hG nV w h => insideF_calls  (b.loads.length : Int) 1 5 w  ) ?_
  refine WPO_run tt_ok 3 (by kernel_rfl) ?_
  refine CALL 34 [.s (.int .i64 b.rule), .s (.int .i64 0), .s (.int .i64 30)] (.s (.bool (insideF b.rule 0 30))) [((insideF (b.loads.length : Int) 1 5), true)] (by kernel_rfl) (goes_of (by kernel_rfl)) (by kernel_rfl) (by kernel_rfl) (fun hG nV w h => insideF_calls  b.rule 0 30 w  ) ?_
  refine WPO_run tt_ok 4 (by kernel_rfl) ?_
  refine CALL 34 [.s (.int .i64 b.most), .s (.int .i64 1), .s (.int .i64 200)] (.s (.bool (insideF b.most 1 200))) [((insideF (b.loads.length : Int) 1 5) && (insideF b.rule 0 30), true)] (by kernel_rfl) (goes_of (by kernel_rfl)) (by kernel_rfl) (by kernel_rfl) (fun hG nV w h => insideF_calls  b.most 1 200 w  ) ?_
  refine WPO_all tt_ok (by kernel_rfl) ?_
  refine WP_seq (WP_seq (WP_region (WPO_all tt_ok (by kernel_rfl) ?_)))
  refine WP_loopA (ρ := Int) (checkR_c1 b) (checkR_b1 b) b.loads.length (((insideF (b.loads.length : Int) 1 5) && (insideF b.rule 0 30)) && (insideF b.most 1 200)) (fun k : Nat => (k : Int)) (fun (ci : Int) (zz : Bool) => ⟨55, [(4, [], .s (.int .i64 ci)), (3, [], .s (.bool zz)), (1, [], .s (.p 1 0))], [(1, .box 24 [.ref 0, .int .i64 b.rule, .int .i64 b.most]), (0, .sl .ro 61 3 b.loads encLoad zLoad)], 2, []⟩) (fun zz : Bool => ⟨55, [(3, [], .s (.bool zz))], [(1, .box 24 [.ref 0, .int .i64 b.rule, .int .i64 b.most]), (0, .sl .ro 61 3 b.loads encLoad zLoad)], 2, []⟩) (fun k zz => True) trivial ⟨0, rfl, Le_sel (ts := [4, 3, 1]) (ids := [1, 0]) (nx := 2) (by kernel_rfl)⟩ ?_ ?_
  · intro k1 v1_1 hn1 hp1 hi1 Q1 hq1 ho1
    refine WP_seq (WP_seq (WP_region (WPO_all tt_ok (by kernel_rfl) ?_)))
    refine WP_cond (v1_1 && (decide ((k1 : Int) < (b.loads.length : Int)))) (by kernel_rfl) (fun hc1 => ?_) (fun hc1 => ?_)
    rotate_left
    · refine WP_exit ?_
      show Q1 (.exit 0) _
      exact LA_exit hq1 v1_1 (loopR_end hi1 hc1) ⟨k1, hn1, hp1⟩ (Le_sel (ts := [3]) (ids := [1, 0]) (nx := 2) (by kernel_rfl))
    have hc1' := hc1; try simp only [Bool.and_eq_true, Bool.or_eq_true, Bool.and_eq_false_iff, Bool.or_eq_false_iff, Bool.not_eq_true', Bool.not_eq_false', decide_eq_true_eq, decide_eq_false_iff_not, beq_iff_eq, beq_eq_false_iff_ne, bne_iff_ne, bne_eq_false_iff_eq, ne_eq] at hc1'
    have hk1 : k1 < b.loads.length := by omega
    refine WP_skip ?_
    refine WP_seq (WP_block ?_)
    refine WP_seq (WP_region (WPO_run tt_ok 3 (by kernel_rfl) ?_))
    refine IX tt_ok (k1 : Int) b.loads.length [] (by kernel_rfl) (fun hG => ⟨by omega, by omega⟩) ?_
    refine WPO_all tt_ok (by kernel_rfl) ?_
    refine WP_region (WPO_run tt_ok 2 (by kernel_rfl) ?_)
    refine CALL 83 [.g [.int .i64 (b.loads.getD k1 zLoad).w.lo, .int .i64 (b.loads.getD k1 zLoad).w.hi], .s (.int .i64 1), .s (.int .i64 60)] (.s (.bool (validF (b.loads.getD k1 zLoad).w 1 60))) [] (by kernel_rfl) (goes_of (by kernel_rfl)) (by kernel_rfl) (by kernel_rfl) (fun hG nV w h => validF_calls  (b.loads.getD k1 zLoad).w 1 60 w  ) ?_
    refine WPO_run tt_ok 13 (by kernel_rfl) ?_
    refine CALL 34 [.s (.int .i64 (b.loads.getD k1 zLoad).lanes), .s (.int .i64 1), .s (.int .i64 7)] (.s (.bool (insideF (b.loads.getD k1 zLoad).lanes 1 7))) [((validF (b.loads.getD k1 zLoad).w 1 60) && (decide ((IntKind.i64.wrap ((b.loads.getD k1 zLoad).w.hi - (b.loads.getD k1 zLoad).w.lo)) ≤ 4)), true)] (by kernel_rfl) (goes_of (by kernel_rfl)) (by kernel_rfl) (by kernel_rfl) (fun hG nV w h => insideF_calls  (b.loads.getD k1 zLoad).lanes 1 7 w  ) ?_
    refine WPO_all tt_ok (by kernel_rfl) ?_
    refine WP_region (WPO_all tt_ok (by kernel_rfl) ?_)
    show Q1 .normal _
    exact LA_go hq1 (ci := IntKind.i64.wrap ((k1 : Int) + 1)) (((validF (b.loads.getD k1 zLoad).w 1 60) && (decide ((IntKind.i64.wrap ((b.loads.getD k1 zLoad).w.hi - (b.loads.getD k1 zLoad).w.lo)) ≤ 4))) && (insideF (b.loads.getD k1 zLoad).lanes 1 7)) hk1 (by show _ = ((k1 + 1 : Nat) : Int); rw [wrapI (by omega) (by omega)]; omega) (loopR_go hi1 hk1 hc1 (rfl)) trivial (Le_sel (ts := [4, 3, 1]) (ids := [1, 0]) (nx := 2) (by kernel_rfl))
  intro u1_0 hR1 hP1 s' hl
  refine WP_le hl ?_
  clear hl s'
  refine WP_seq (WP_seq (WP_region (WPO_all tt_ok (by kernel_rfl) ?_)))
  refine WP_cond (!u1_0) (by kernel_rfl) (fun hc3 => ?_) (fun hc3 => ?_)
  · have hc3' := hc3; try simp only [Bool.and_eq_true, Bool.or_eq_true, Bool.and_eq_false_iff, Bool.or_eq_false_iff, Bool.not_eq_true', Bool.not_eq_false', decide_eq_true_eq, decide_eq_false_iff_not, beq_iff_eq, beq_eq_false_iff_ne, bne_iff_ne, bne_eq_false_iff_eq, ne_eq] at hc3'
    refine WP_seq (WP_region (WPO_all tt_ok (by kernel_rfl) ?_))
    refine WP_ret ?_
    exact ⟨.s (.int .i64 30), by kernel_rfl, fun nV w' h => ⟨by rw [show checkR b = 30 from by unfold checkR; simp only [hR1, hc3, cond_true, cond_false]]; rfl, h.bel⟩⟩
  have hc3' := hc3; try simp only [Bool.and_eq_true, Bool.or_eq_true, Bool.and_eq_false_iff, Bool.or_eq_false_iff, Bool.not_eq_true', Bool.not_eq_false', decide_eq_true_eq, decide_eq_false_iff_not, beq_iff_eq, beq_eq_false_iff_ne, bne_iff_ne, bne_eq_false_iff_eq, ne_eq] at hc3'
  refine WP_skip ?_
  refine WP_seq (WP_region (WPO_all tt_ok (by kernel_rfl) ?_))
  refine WP_ret ?_
  exact ⟨.s (.int .i64 0), by kernel_rfl, fun nV w' h => ⟨by rw [show checkR b = 0 from by unfold checkR; simp only [hR1, hc3, cond_true, cond_false]]; rfl, h.bel⟩⟩
end Go.Proofs.YthfnedbpmdkdjaaDoor.D
namespace Go.Proofs.YthfnedbpmdkdjaaDoor.D
open Go Go.RowKit Go.Proofs.YthfnedbpmdkdjaaDoor.Eng Go.Proofs.YthfnedbpmdkdjaaDoor.Cm
set_option linter.unusedVariables false
set_option linter.unusedSimpArgs false
set_option linter.unusedSectionVars false
def listR_c1 (b : DBook) (on : List Place) (k1 : Nat) : (Int × Int) → Bool := fun (v1_1, v1_2) => decide ((k1 : Int) < (on.length : Int))
def listR_b1 (b : DBook) (on : List Place) (k1 : Nat) : (Int × Int) → Bd (Int × Int) Span := fun (v1_1, v1_2) => .go (bif ((on.getD k1 zPlace).lane == 2) then (addedF (⟨bif ((on.getD k1 zPlace).lane == 0) then (addedF (⟨v1_1, v1_2⟩ : Span) (b.loads.getD (on.getD k1 zPlace).load.toNat zLoad).w).lo else v1_1, bif ((on.getD k1 zPlace).lane == 0) then (addedF (⟨v1_1, v1_2⟩ : Span) (b.loads.getD (on.getD k1 zPlace).load.toNat zLoad).w).hi else v1_2⟩ : Span) (rangeF (IntKind.i64.wrap (0 - (b.loads.getD (on.getD k1 zPlace).load.toNat zLoad).w.hi)) (IntKind.i64.wrap (0 - (b.loads.getD (on.getD k1 zPlace).load.toNat zLoad).w.lo)))).lo else bif ((on.getD k1 zPlace).lane == 0) then (addedF (⟨v1_1, v1_2⟩ : Span) (b.loads.getD (on.getD k1 zPlace).load.toNat zLoad).w).lo else v1_1, bif ((on.getD k1 zPlace).lane == 2) then (addedF (⟨bif ((on.getD k1 zPlace).lane == 0) then (addedF (⟨v1_1, v1_2⟩ : Span) (b.loads.getD (on.getD k1 zPlace).load.toNat zLoad).w).lo else v1_1, bif ((on.getD k1 zPlace).lane == 0) then (addedF (⟨v1_1, v1_2⟩ : Span) (b.loads.getD (on.getD k1 zPlace).load.toNat zLoad).w).hi else v1_2⟩ : Span) (rangeF (IntKind.i64.wrap (0 - (b.loads.getD (on.getD k1 zPlace).load.toNat zLoad).w.hi)) (IntKind.i64.wrap (0 - (b.loads.getD (on.getD k1 zPlace).load.toNat zLoad).w.lo)))).hi else bif ((on.getD k1 zPlace).lane == 0) then (addedF (⟨v1_1, v1_2⟩ : Span) (b.loads.getD (on.getD k1 zPlace).load.toNat zLoad).w).hi else v1_2)
def listR (b : DBook) (on : List Place) : Span :=
  (match loopR (listR_c1 b on) (listR_b1 b on) on.length 0 ((pointF 0).lo, (pointF 0).hi) with | .brk (u1_0, u1_1) => (⟨u1_0, u1_1⟩ : Span) | .ret r => r)
theorem listR_calls (g0 g1 : Value) (b : DBook) (on : List Place) (w : World) (r0 : Reads w g0 3 b.loads encLoad zLoad) (r1 : Reads w g1 2 on encPlace zPlace) (hon : ∀ x ∈ on, 0 ≤ x.load ∧ x.load < b.loads.length) : Calls Tryd.prog 108 #[.agg #[g0, iv b.rule, iv b.most], g1] w fun e w' => e = .returned (.agg #[iv (listR b on).lo, iv (listR b on).hi]) ∧ Below w.heap.size w w' := by
  refine calls_of_WP (cx := cx0 w (vn [g0, g1]) 2) (n := vn [g0, g1]) (vs := [.g [.ref 0, .int .i64 b.rule, .int .i64 b.most], .s (.ref 1)]) (hp := [(0, .sl .ro 61 3 b.loads encLoad zLoad), (1, .sl .ro 65 2 on encPlace zPlace)]) (nx := 2) tt_ok Tryd.func108 rfl rfl rfl (by kernel_rfl) (HSat_args (vn_one (by simp [r0.one, r1.one])) (Nat.le_refl _) ⟨⟨⟨fun _ => rfl, by decide, r0⟩, (Nat.le_of_ble_eq_true rfl)⟩, ⟨⟨fun _ => rfl, by decide, r1⟩, (Nat.le_of_ble_eq_true rfl)⟩, trivial⟩) (vsOk (by kernel_rfl)) ?_
  have hl0 := Reads.len r0
  have hl1 := Reads.len r1
  refine WP_seq (WP_region (WPO_all tt_ok (by kernel_rfl) ?_))
  refine WP_seq (WP_region (CALL 65 [.s (.int .i64 0)] (.g [.int .i64 (pointF 0).lo, .int .i64 (pointF 0).hi]) [] (by kernel_rfl) (goes_of (by kernel_rfl)) (by kernel_rfl) (by kernel_rfl) (fun hG nV w h => pointF_calls  0 w  ) ?_))
  refine WPO_all tt_ok (by kernel_rfl) ?_
  refine WP_seq (WP_seq (WP_region (WPO_all tt_ok (by kernel_rfl) ?_)))
  refine WP_loopA (ρ := Span) (listR_c1 b on) (listR_b1 b on) on.length ((pointF 0).lo, (pointF 0).hi) (fun k : Nat => (k : Int)) (fun (ci : Int) (zz : Int × Int) => ⟨50, [(6, [], .s (.int .i64 ci)), (5, [], .s (.p 4 0)), (4, [], .s (.p 3 0)), (2, [], .s (.p 2 0)), (1, [], .s (.ref 1))], [(4, .box 43 [.int .i64 zz.1, .int .i64 zz.2]), (3, .box 43 [.int .i64 0, .int .i64 0]), (2, .box 24 [.ref 0, .int .i64 b.rule, .int .i64 b.most]), (0, .sl .ro 61 3 b.loads encLoad zLoad), (1, .sl .ro 65 2 on encPlace zPlace)], 5, []⟩) (fun zz : Int × Int => ⟨50, [(5, [], .s (.p 4 0)), (4, [], .s (.p 3 0))], [(4, .box 43 [.int .i64 zz.1, .int .i64 zz.2]), (3, .box 43 [.int .i64 0, .int .i64 0]), (2, .box 24 [.ref 0, .int .i64 b.rule, .int .i64 b.most]), (0, .sl .ro 61 3 b.loads encLoad zLoad), (1, .sl .ro 65 2 on encPlace zPlace)], 5, []⟩) (fun k zz => True) trivial ⟨0, rfl, Le_sel (ts := [6, 5, 4, 2, 1]) (ids := [4, 3, 2, 0, 1]) (nx := 5) (by kernel_rfl)⟩ ?_ ?_
  · intro k1 zz hn1 hp1 hi1 Q1 hq1 ho1
    obtain ⟨v1_1, v1_2⟩ := zz
    refine WP_seq (WP_seq (WP_region (WPO_all tt_ok (by kernel_rfl) ?_)))
    refine WP_cond (decide ((k1 : Int) < (on.length : Int))) (by kernel_rfl) (fun hc1 => ?_) (fun hc1 => ?_)
    rotate_left
    · refine WP_exit ?_
      show Q1 (.exit 0) _
      exact LA_exit hq1 (v1_1, v1_2) (loopR_end hi1 hc1) ⟨k1, hn1, hp1⟩ (Le_sel (ts := [5, 4]) (ids := [4, 3, 2, 0, 1]) (nx := 5) (by kernel_rfl))
    have hc1' := of_decide_eq_true hc1
    have hk1 : k1 < on.length := by omega
    have hox := hon _ (getD_mem (z := zPlace) hk1)
    refine WP_skip ?_
    refine WP_seq (WP_block ?_)
    refine WP_seq (WP_toX (σ := Unit) (fun _ => ⟨50, [(7, [], .s (.p 5 0)), (6, [], .s (.int .i64 (k1 : Int))), (5, [], .s (.p 4 0)), (4, [], .s (.p 3 0)), (2, [], .s (.p 2 0)), (1, [], .s (.ref 1))], [(5, .box 43 [.int .i64 (b.loads.getD (on.getD k1 zPlace).load.toNat zLoad).w.lo, .int .i64 (b.loads.getD (on.getD k1 zPlace).load.toNat zLoad).w.hi]), (4, .box 43 [.int .i64 v1_1, .int .i64 v1_2]), (3, .box 43 [.int .i64 0, .int .i64 0]), (2, .box 24 [.ref 0, .int .i64 b.rule, .int .i64 b.most]), (0, .sl .ro 61 3 b.loads encLoad zLoad), (1, .sl .ro 65 2 on encPlace zPlace)], 6, []⟩) ?_ ?_)
    · refine WP_drawH [] (by kernel_rfl) (by kernel_rfl) ?_
      refine H_run tt_ok [0, 1, 2, 3] (f' := 8) (by kernel_rfl) (by kernel_rfl) (by kernel_rfl) ?_
      refine H_IX tt_ok 4 (k1 : Int) on.length [] (by kernel_rfl) (fun hG => ⟨by omega, by omega⟩) (by kernel_rfl) (by kernel_rfl) ?_
      refine H_two 5 10 (by kernel_rfl) (by kernel_rfl) (by kernel_rfl) (fun hfz cx' hx1 hx2 => ?_) (fun hfz cx' hx1 hx2 => ?_)
      · refine WPO_all tt_ok (by kernel_rfl) ?_
        refine ⟨rfl, (hfz.fnds [4, 3, 2, 0, 1] (by kernel_rfl) ⟨by kernel_rfl, by kernel_rfl, by kernel_rfl, by kernel_rfl, by kernel_rfl, trivial⟩ (by kernel_rfl)), ?_⟩
        refine H_run tt_ok [6] (f' := 5) (by kernel_rfl) (by kernel_rfl) (by kernel_rfl) ?_
        refine H_IX tt_ok 7 (on.getD k1 zPlace).load b.loads.length [] (by kernel_rfl) (fun hG => ⟨by omega, by omega⟩) (by kernel_rfl) (by kernel_rfl) ?_
        refine H_two 8 10 (by kernel_rfl) (by kernel_rfl) (by kernel_rfl) (fun hfz cx' hx1 hx2 => ?_) (fun hfz cx' hx1 hx2 => ?_)
        · refine WPO_all tt_ok (by kernel_rfl) ?_
          refine ⟨rfl, (hfz.fnds [4, 3, 2, 0, 1] (by kernel_rfl) ⟨by kernel_rfl, by kernel_rfl, by kernel_rfl, by kernel_rfl, by kernel_rfl, trivial⟩ (by kernel_rfl)), ?_⟩
          refine H_run tt_ok [9] (f' := 2) (by kernel_rfl) (by kernel_rfl) (by kernel_rfl) ?_
          refine H_step 10 (by kernel_rfl) (by kernel_rfl) (fun hfz cx' hx1 hx2 => ?_)
          refine WPO_all tt_ok (by kernel_rfl) ?_
          refine ⟨rfl, (hfz.fnds [4, 3, 2, 0, 1] (by kernel_rfl) ⟨by kernel_rfl, by kernel_rfl, by kernel_rfl, by kernel_rfl, by kernel_rfl, trivial⟩ (by kernel_rfl)), ?_⟩
          refine H_step 11 (by kernel_rfl) (by kernel_rfl) (fun hfz cx' hx1 hx2 => ?_)
          refine WPO_all tt_ok (by kernel_rfl) ?_
          refine ⟨rfl, (hfz.fnds [4, 3, 2, 0, 1] (by kernel_rfl) ⟨by kernel_rfl, by kernel_rfl, by kernel_rfl, by kernel_rfl, by kernel_rfl, trivial⟩ (by kernel_rfl)), ?_⟩
          refine H_done (by kernel_rfl) ?_
          exact ⟨(), Le_sel (ts := [7, 6, 5, 4, 2, 1]) (ids := [5, 4, 3, 2, 0, 1]) (nx := 6) (by kernel_rfl)⟩
        · refine WPO_all tt_ok (by kernel_rfl) ?_
          refine ⟨rfl, (hfz.fnds [4, 3, 2, 0, 1] (by kernel_rfl) ⟨by kernel_rfl, by kernel_rfl, by kernel_rfl, by kernel_rfl, by kernel_rfl, trivial⟩ (by kernel_rfl)), ?_⟩
          refine H_step 8 (by kernel_rfl) (by kernel_rfl) (fun hfz cx' hx1 hx2 => ?_)
          refine WPO_all tt_ok (by kernel_rfl) ?_
          refine ⟨rfl, (hfz.fnds [4, 3, 2, 0, 1] (by kernel_rfl) ⟨by kernel_rfl, by kernel_rfl, by kernel_rfl, by kernel_rfl, by kernel_rfl, trivial⟩ (by kernel_rfl)), ?_⟩
          refine H_run tt_ok [9] (f' := 1) (by kernel_rfl) (by kernel_rfl) (by kernel_rfl) ?_
          refine H_step 11 (by kernel_rfl) (by kernel_rfl) (fun hfz cx' hx1 hx2 => ?_)
          refine WPO_all tt_ok (by kernel_rfl) ?_
          refine ⟨rfl, (hfz.fnds [4, 3, 2, 0, 1] (by kernel_rfl) ⟨by kernel_rfl, by kernel_rfl, by kernel_rfl, by kernel_rfl, by kernel_rfl, trivial⟩ (by kernel_rfl)), ?_⟩
          refine H_done (by kernel_rfl) ?_
          exact ⟨(), Le_sel (ts := [7, 6, 5, 4, 2, 1]) (ids := [5, 4, 3, 2, 0, 1]) (nx := 6) (by kernel_rfl)⟩
      · refine WPO_all tt_ok (by kernel_rfl) ?_
        refine ⟨rfl, (hfz.fnds [4, 3, 2, 0, 1] (by kernel_rfl) ⟨by kernel_rfl, by kernel_rfl, by kernel_rfl, by kernel_rfl, by kernel_rfl, trivial⟩ (by kernel_rfl)), ?_⟩
        refine H_step 5 (by kernel_rfl) (by kernel_rfl) (fun hfz cx' hx1 hx2 => ?_)
        refine WPO_all tt_ok (by kernel_rfl) ?_
        refine ⟨rfl, (hfz.fnds [4, 3, 2, 0, 1] (by kernel_rfl) ⟨by kernel_rfl, by kernel_rfl, by kernel_rfl, by kernel_rfl, by kernel_rfl, trivial⟩ (by kernel_rfl)), ?_⟩
        refine H_run tt_ok [6] (f' := 4) (by kernel_rfl) (by kernel_rfl) (by kernel_rfl) ?_
        refine H_IX tt_ok 7 (on.getD k1 zPlace).load b.loads.length [] (by kernel_rfl) (fun hG => ⟨by omega, by omega⟩) (by kernel_rfl) (by kernel_rfl) ?_
        refine H_step 8 (by kernel_rfl) (by kernel_rfl) (fun hfz cx' hx1 hx2 => ?_)
        refine WPO_all tt_ok (by kernel_rfl) ?_
        refine ⟨rfl, (hfz.fnds [4, 3, 2, 0, 1] (by kernel_rfl) ⟨by kernel_rfl, by kernel_rfl, by kernel_rfl, by kernel_rfl, by kernel_rfl, trivial⟩ (by kernel_rfl)), ?_⟩
        refine H_run tt_ok [9] (f' := 1) (by kernel_rfl) (by kernel_rfl) (by kernel_rfl) ?_
        refine H_step 11 (by kernel_rfl) (by kernel_rfl) (fun hfz cx' hx1 hx2 => ?_)
        refine WPO_all tt_ok (by kernel_rfl) ?_
        refine ⟨rfl, (hfz.fnds [4, 3, 2, 0, 1] (by kernel_rfl) ⟨by kernel_rfl, by kernel_rfl, by kernel_rfl, by kernel_rfl, by kernel_rfl, trivial⟩ (by kernel_rfl)), ?_⟩
        refine H_done (by kernel_rfl) ?_
        exact ⟨(), Le_sel (ts := [7, 6, 5, 4, 2, 1]) (ids := [5, 4, 3, 2, 0, 1]) (nx := 6) (by kernel_rfl)⟩
    intro _
    refine WP_seq (WP_seq (WP_region (WPO_run tt_ok 2 (by kernel_rfl) ?_)))
    refine IX tt_ok (k1 : Int) on.length [] (by kernel_rfl) (fun hG => ⟨by omega, by omega⟩) ?_
    refine WPO_all tt_ok (by kernel_rfl) ?_
    refine WP_join ((on.getD k1 zPlace).lane == 0) (fun q => ⟨50, [(7, [], .s (.p 5 0)), (6, [], .s (.int .i64 (k1 : Int))), (5, [], .s (.p 4 0)), (4, [], .s (.p 3 0)), (2, [], .s (.p 2 0)), (1, [], .s (.ref 1))], [(5, .box 43 [.int .i64 (b.loads.getD (on.getD k1 zPlace).load.toNat zLoad).w.lo, .int .i64 (b.loads.getD (on.getD k1 zPlace).load.toNat zLoad).w.hi]), (4, .box 43 [.int .i64 (bif q then (addedF (⟨v1_1, v1_2⟩ : Span) (b.loads.getD (on.getD k1 zPlace).load.toNat zLoad).w).lo else v1_1), .int .i64 (bif q then (addedF (⟨v1_1, v1_2⟩ : Span) (b.loads.getD (on.getD k1 zPlace).load.toNat zLoad).w).hi else v1_2)]), (3, .box 43 [.int .i64 0, .int .i64 0]), (2, .box 24 [.ref 0, .int .i64 b.rule, .int .i64 b.most]), (0, .sl .ro 61 3 b.loads encLoad zLoad), (1, .sl .ro 65 2 on encPlace zPlace)], 6, []⟩) (by kernel_rfl) (fun hc3 => ?_) (fun hc3 => ?_) ?_
    · have hc3' := hc3; try simp only [Bool.and_eq_true, Bool.or_eq_true, Bool.and_eq_false_iff, Bool.or_eq_false_iff, Bool.not_eq_true', Bool.not_eq_false', decide_eq_true_eq, decide_eq_false_iff_not, beq_iff_eq, beq_eq_false_iff_ne, bne_iff_ne, bne_eq_false_iff_eq, ne_eq] at hc3'
      refine WP_region (WPO_run tt_ok 2 (by kernel_rfl) ?_)
      refine CALL 93 [.g [.int .i64 v1_1, .int .i64 v1_2], .g [.int .i64 (b.loads.getD (on.getD k1 zPlace).load.toNat zLoad).w.lo, .int .i64 (b.loads.getD (on.getD k1 zPlace).load.toNat zLoad).w.hi]] (.g [.int .i64 (addedF (⟨v1_1, v1_2⟩ : Span) (b.loads.getD (on.getD k1 zPlace).load.toNat zLoad).w).lo, .int .i64 (addedF (⟨v1_1, v1_2⟩ : Span) (b.loads.getD (on.getD k1 zPlace).load.toNat zLoad).w).hi]) [] (by kernel_rfl) (goes_of (by kernel_rfl)) (by kernel_rfl) (by kernel_rfl) (fun hG nV w h => addedF_calls  (⟨v1_1, v1_2⟩ : Span) (b.loads.getD (on.getD k1 zPlace).load.toNat zLoad).w w  ) ?_
      refine WPO_all tt_ok (by kernel_rfl) ?_
      exact Le_sel (ts := [7, 6, 5, 4, 2, 1]) (ids := [5, 4, 3, 2, 0, 1]) (nx := 6) (by kernel_rfl)
    · have hc3' := hc3; try simp only [Bool.and_eq_true, Bool.or_eq_true, Bool.and_eq_false_iff, Bool.or_eq_false_iff, Bool.not_eq_true', Bool.not_eq_false', decide_eq_true_eq, decide_eq_false_iff_not, beq_iff_eq, beq_eq_false_iff_ne, bne_iff_ne, bne_eq_false_iff_eq, ne_eq] at hc3'
      refine WP_skip ?_
      exact Le_sel (ts := [7, 6, 5, 4, 2, 1]) (ids := [5, 4, 3, 2, 0, 1]) (nx := 6) (by kernel_rfl)
    refine WP_seq (WP_region (WPO_run tt_ok 2 (by kernel_rfl) ?_))
    refine IX tt_ok (k1 : Int) on.length [] (by kernel_rfl) (fun hG => ⟨by omega, by omega⟩) ?_
    refine WPO_all tt_ok (by kernel_rfl) ?_
    refine WP_join ((on.getD k1 zPlace).lane == 2) (fun q => ⟨50, [(6, [], .s (.int .i64 (k1 : Int))), (5, [], .s (.p 4 0)), (4, [], .s (.p 3 0)), (2, [], .s (.p 2 0)), (1, [], .s (.ref 1))], [(5, .box 43 [.int .i64 (b.loads.getD (on.getD k1 zPlace).load.toNat zLoad).w.lo, .int .i64 (b.loads.getD (on.getD k1 zPlace).load.toNat zLoad).w.hi]), (4, .box 43 [.int .i64 (bif q then (addedF (⟨bif ((on.getD k1 zPlace).lane == 0) then (addedF (⟨v1_1, v1_2⟩ : Span) (b.loads.getD (on.getD k1 zPlace).load.toNat zLoad).w).lo else v1_1, bif ((on.getD k1 zPlace).lane == 0) then (addedF (⟨v1_1, v1_2⟩ : Span) (b.loads.getD (on.getD k1 zPlace).load.toNat zLoad).w).hi else v1_2⟩ : Span) (rangeF (IntKind.i64.wrap (0 - (b.loads.getD (on.getD k1 zPlace).load.toNat zLoad).w.hi)) (IntKind.i64.wrap (0 - (b.loads.getD (on.getD k1 zPlace).load.toNat zLoad).w.lo)))).lo else bif ((on.getD k1 zPlace).lane == 0) then (addedF (⟨v1_1, v1_2⟩ : Span) (b.loads.getD (on.getD k1 zPlace).load.toNat zLoad).w).lo else v1_1), .int .i64 (bif q then (addedF (⟨bif ((on.getD k1 zPlace).lane == 0) then (addedF (⟨v1_1, v1_2⟩ : Span) (b.loads.getD (on.getD k1 zPlace).load.toNat zLoad).w).lo else v1_1, bif ((on.getD k1 zPlace).lane == 0) then (addedF (⟨v1_1, v1_2⟩ : Span) (b.loads.getD (on.getD k1 zPlace).load.toNat zLoad).w).hi else v1_2⟩ : Span) (rangeF (IntKind.i64.wrap (0 - (b.loads.getD (on.getD k1 zPlace).load.toNat zLoad).w.hi)) (IntKind.i64.wrap (0 - (b.loads.getD (on.getD k1 zPlace).load.toNat zLoad).w.lo)))).hi else bif ((on.getD k1 zPlace).lane == 0) then (addedF (⟨v1_1, v1_2⟩ : Span) (b.loads.getD (on.getD k1 zPlace).load.toNat zLoad).w).hi else v1_2)]), (3, .box 43 [.int .i64 0, .int .i64 0]), (2, .box 24 [.ref 0, .int .i64 b.rule, .int .i64 b.most]), (0, .sl .ro 61 3 b.loads encLoad zLoad), (1, .sl .ro 65 2 on encPlace zPlace)], 6, []⟩) (by kernel_rfl) (fun hc5 => ?_) (fun hc5 => ?_) ?_
    · have hc5' := hc5; try simp only [Bool.and_eq_true, Bool.or_eq_true, Bool.and_eq_false_iff, Bool.or_eq_false_iff, Bool.not_eq_true', Bool.not_eq_false', decide_eq_true_eq, decide_eq_false_iff_not, beq_iff_eq, beq_eq_false_iff_ne, bne_iff_ne, bne_eq_false_iff_eq, ne_eq] at hc5'
      refine WP_drawHM 9 [] [4] (by kernel_rfl) (by kernel_rfl) ?_
      refine H_run tt_ok [0, 1, 2, 3, 4, 5, 6] (f' := 2) (by kernel_rfl) (by kernel_rfl) (by kernel_rfl) ?_
      refine H_step 7 (by kernel_rfl) (by kernel_rfl) (fun hfz cx' hx1 hx2 => ?_)
      refine CALL 40 [.s (.int .i64 (IntKind.i64.wrap (0 - (b.loads.getD (on.getD k1 zPlace).load.toNat zLoad).w.hi))), .s (.int .i64 (IntKind.i64.wrap (0 - (b.loads.getD (on.getD k1 zPlace).load.toNat zLoad).w.lo)))] (.g [.int .i64 (rangeF (IntKind.i64.wrap (0 - (b.loads.getD (on.getD k1 zPlace).load.toNat zLoad).w.hi)) (IntKind.i64.wrap (0 - (b.loads.getD (on.getD k1 zPlace).load.toNat zLoad).w.lo))).lo, .int .i64 (rangeF (IntKind.i64.wrap (0 - (b.loads.getD (on.getD k1 zPlace).load.toNat zLoad).w.hi)) (IntKind.i64.wrap (0 - (b.loads.getD (on.getD k1 zPlace).load.toNat zLoad).w.lo))).hi]) [] (by kernel_rfl) (goes_of (by kernel_rfl)) (by kernel_rfl) (by kernel_rfl) (fun hG nV w h => rangeF_calls  (IntKind.i64.wrap (0 - (b.loads.getD (on.getD k1 zPlace).load.toNat zLoad).w.hi)) (IntKind.i64.wrap (0 - (b.loads.getD (on.getD k1 zPlace).load.toNat zLoad).w.lo)) w  ) ?_
      refine WPO_end (by kernel_rfl) ⟨rfl, (hfz.fnds [5, 4, 3, 2, 0, 1] (by kernel_rfl) ⟨by kernel_rfl, by kernel_rfl, by kernel_rfl, by kernel_rfl, by kernel_rfl, by kernel_rfl, trivial⟩ (by kernel_rfl)), ?_⟩
      refine H_step 8 (by kernel_rfl) (by kernel_rfl) (fun hfz cx' hx1 hx2 => ?_)
      refine CALL 93 [.g [.int .i64 (bif ((on.getD k1 zPlace).lane == 0) then (addedF (⟨v1_1, v1_2⟩ : Span) (b.loads.getD (on.getD k1 zPlace).load.toNat zLoad).w).lo else v1_1), .int .i64 (bif ((on.getD k1 zPlace).lane == 0) then (addedF (⟨v1_1, v1_2⟩ : Span) (b.loads.getD (on.getD k1 zPlace).load.toNat zLoad).w).hi else v1_2)], .g [.int .i64 (rangeF (IntKind.i64.wrap (0 - (b.loads.getD (on.getD k1 zPlace).load.toNat zLoad).w.hi)) (IntKind.i64.wrap (0 - (b.loads.getD (on.getD k1 zPlace).load.toNat zLoad).w.lo))).lo, .int .i64 (rangeF (IntKind.i64.wrap (0 - (b.loads.getD (on.getD k1 zPlace).load.toNat zLoad).w.hi)) (IntKind.i64.wrap (0 - (b.loads.getD (on.getD k1 zPlace).load.toNat zLoad).w.lo))).hi]] (.g [.int .i64 (addedF (⟨bif ((on.getD k1 zPlace).lane == 0) then (addedF (⟨v1_1, v1_2⟩ : Span) (b.loads.getD (on.getD k1 zPlace).load.toNat zLoad).w).lo else v1_1, bif ((on.getD k1 zPlace).lane == 0) then (addedF (⟨v1_1, v1_2⟩ : Span) (b.loads.getD (on.getD k1 zPlace).load.toNat zLoad).w).hi else v1_2⟩ : Span) (rangeF (IntKind.i64.wrap (0 - (b.loads.getD (on.getD k1 zPlace).load.toNat zLoad).w.hi)) (IntKind.i64.wrap (0 - (b.loads.getD (on.getD k1 zPlace).load.toNat zLoad).w.lo)))).lo, .int .i64 (addedF (⟨bif ((on.getD k1 zPlace).lane == 0) then (addedF (⟨v1_1, v1_2⟩ : Span) (b.loads.getD (on.getD k1 zPlace).load.toNat zLoad).w).lo else v1_1, bif ((on.getD k1 zPlace).lane == 0) then (addedF (⟨v1_1, v1_2⟩ : Span) (b.loads.getD (on.getD k1 zPlace).load.toNat zLoad).w).hi else v1_2⟩ : Span) (rangeF (IntKind.i64.wrap (0 - (b.loads.getD (on.getD k1 zPlace).load.toNat zLoad).w.hi)) (IntKind.i64.wrap (0 - (b.loads.getD (on.getD k1 zPlace).load.toNat zLoad).w.lo)))).hi]) [] (by kernel_rfl) (goes_of (by kernel_rfl)) (by kernel_rfl) (by kernel_rfl) (fun hG nV w h => addedF_calls  (⟨bif ((on.getD k1 zPlace).lane == 0) then (addedF (⟨v1_1, v1_2⟩ : Span) (b.loads.getD (on.getD k1 zPlace).load.toNat zLoad).w).lo else v1_1, bif ((on.getD k1 zPlace).lane == 0) then (addedF (⟨v1_1, v1_2⟩ : Span) (b.loads.getD (on.getD k1 zPlace).load.toNat zLoad).w).hi else v1_2⟩ : Span) (rangeF (IntKind.i64.wrap (0 - (b.loads.getD (on.getD k1 zPlace).load.toNat zLoad).w.hi)) (IntKind.i64.wrap (0 - (b.loads.getD (on.getD k1 zPlace).load.toNat zLoad).w.lo))) w  ) ?_
      refine WPO_end (by kernel_rfl) ⟨rfl, (hfz.fnds [5, 4, 3, 2, 0, 1] (by kernel_rfl) ⟨by kernel_rfl, by kernel_rfl, by kernel_rfl, by kernel_rfl, by kernel_rfl, by kernel_rfl, trivial⟩ (by kernel_rfl)), ?_⟩
      refine H_done (by kernel_rfl) ?_
      refine ⟨(by kernel_rfl), ?_⟩
      refine H_step 9 (by kernel_rfl) (by kernel_rfl) (fun hfz cx' hx1 hx2 => ?_)
      refine WPO_all tt_ok (by kernel_rfl) ?_
      refine ⟨rfl, (hfz.fnds [5, 3, 2, 0, 1] (by kernel_rfl) ⟨by kernel_rfl, by kernel_rfl, by kernel_rfl, by kernel_rfl, by kernel_rfl, trivial⟩ (by kernel_rfl)), ?_⟩
      refine H_done (by kernel_rfl) ?_
      exact Le_sel (ts := [6, 5, 4, 2, 1]) (ids := [5, 4, 3, 2, 0, 1]) (nx := 6) (by kernel_rfl)
    · have hc5' := hc5; try simp only [Bool.and_eq_true, Bool.or_eq_true, Bool.and_eq_false_iff, Bool.or_eq_false_iff, Bool.not_eq_true', Bool.not_eq_false', decide_eq_true_eq, decide_eq_false_iff_not, beq_iff_eq, beq_eq_false_iff_ne, bne_iff_ne, bne_eq_false_iff_eq, ne_eq] at hc5'
      refine WP_skip ?_
      exact Le_sel (ts := [6, 5, 4, 2, 1]) (ids := [5, 4, 3, 2, 0, 1]) (nx := 6) (by kernel_rfl)
    refine WP_region (WPO_all tt_ok (by kernel_rfl) ?_)
    show Q1 .normal _
    exact LA_go hq1 (ci := IntKind.i64.wrap ((k1 : Int) + 1)) (bif ((on.getD k1 zPlace).lane == 2) then (addedF (⟨bif ((on.getD k1 zPlace).lane == 0) then (addedF (⟨v1_1, v1_2⟩ : Span) (b.loads.getD (on.getD k1 zPlace).load.toNat zLoad).w).lo else v1_1, bif ((on.getD k1 zPlace).lane == 0) then (addedF (⟨v1_1, v1_2⟩ : Span) (b.loads.getD (on.getD k1 zPlace).load.toNat zLoad).w).hi else v1_2⟩ : Span) (rangeF (IntKind.i64.wrap (0 - (b.loads.getD (on.getD k1 zPlace).load.toNat zLoad).w.hi)) (IntKind.i64.wrap (0 - (b.loads.getD (on.getD k1 zPlace).load.toNat zLoad).w.lo)))).lo else bif ((on.getD k1 zPlace).lane == 0) then (addedF (⟨v1_1, v1_2⟩ : Span) (b.loads.getD (on.getD k1 zPlace).load.toNat zLoad).w).lo else v1_1, bif ((on.getD k1 zPlace).lane == 2) then (addedF (⟨bif ((on.getD k1 zPlace).lane == 0) then (addedF (⟨v1_1, v1_2⟩ : Span) (b.loads.getD (on.getD k1 zPlace).load.toNat zLoad).w).lo else v1_1, bif ((on.getD k1 zPlace).lane == 0) then (addedF (⟨v1_1, v1_2⟩ : Span) (b.loads.getD (on.getD k1 zPlace).load.toNat zLoad).w).hi else v1_2⟩ : Span) (rangeF (IntKind.i64.wrap (0 - (b.loads.getD (on.getD k1 zPlace).load.toNat zLoad).w.hi)) (IntKind.i64.wrap (0 - (b.loads.getD (on.getD k1 zPlace).load.toNat zLoad).w.lo)))).hi else bif ((on.getD k1 zPlace).lane == 0) then (addedF (⟨v1_1, v1_2⟩ : Span) (b.loads.getD (on.getD k1 zPlace).load.toNat zLoad).w).hi else v1_2) hk1 (by show _ = ((k1 + 1 : Nat) : Int); rw [wrapI (by omega) (by omega)]; omega) (loopR_go hi1 hk1 hc1 (rfl)) trivial (Le_sel (ts := [6, 5, 4, 2, 1]) (ids := [4, 3, 2, 0, 1]) (nx := 5) (by kernel_rfl))
  intro zz hR1 hP1 s' hl
  obtain ⟨u1_0, u1_1⟩ := zz
  refine WP_le hl ?_
  clear hl s'
  refine WP_seq (WP_region (WPO_all tt_ok (by kernel_rfl) ?_))
  refine WP_ret ?_
  exact ⟨.g [.int .i64 u1_0, .int .i64 u1_1], by kernel_rfl, fun nV w' h => ⟨by rw [show listR b on = (⟨u1_0, u1_1⟩ : Span) from by unfold listR; simp only [hR1, cond_true, cond_false]]; rfl, h.bel⟩⟩
def levelR (b : DBook) (on : List Place) : Int :=
  (bif (coversF (rangeF (IntKind.i64.wrap (0 - b.rule)) b.rule) (listR b on)) then 2 else (bif decide ((meetF (rangeF (IntKind.i64.wrap (0 - b.rule)) b.rule) (listR b on)).lo ≤ (meetF (rangeF (IntKind.i64.wrap (0 - b.rule)) b.rule) (listR b on)).hi) then 1 else 0))
theorem levelR_calls (g0 g1 : Value) (b : DBook) (on : List Place) (w : World) (r0 : Reads w g0 3 b.loads encLoad zLoad) (r1 : Reads w g1 2 on encPlace zPlace) (hon : ∀ x ∈ on, 0 ≤ x.load ∧ x.load < b.loads.length) : Calls Tryd.prog 109 #[.agg #[g0, iv b.rule, iv b.most], g1] w fun e w' => e = .returned (iv (levelR b on)) ∧ Below w.heap.size w w' := by
  refine calls_of_WP (cx := cx0 w (vn [g0, g1]) 2) (n := vn [g0, g1]) (vs := [.g [.ref 0, .int .i64 b.rule, .int .i64 b.most], .s (.ref 1)]) (hp := [(0, .sl .ro 61 3 b.loads encLoad zLoad), (1, .sl .ro 65 2 on encPlace zPlace)]) (nx := 2) tt_ok Tryd.func109 rfl rfl rfl (by kernel_rfl) (HSat_args (vn_one (by simp [r0.one, r1.one])) (Nat.le_refl _) ⟨⟨⟨fun _ => rfl, by decide, r0⟩, (Nat.le_of_ble_eq_true rfl)⟩, ⟨⟨fun _ => rfl, by decide, r1⟩, (Nat.le_of_ble_eq_true rfl)⟩, trivial⟩) (vsOk (by kernel_rfl)) ?_
  have hl0 := Reads.len r0
  have hl1 := Reads.len r1
  refine WP_seq (WP_region (WPO_all tt_ok (by kernel_rfl) ?_))
  refine WP_seq (WP_toX (σ := Unit) (fun _ => ⟨28, [(6, [], .s (.p 4 0)), (5, [], .s (.p 3 0))], [(4, .box 43 [.int .i64 (listR b on).lo, .int .i64 (listR b on).hi]), (3, .box 43 [.int .i64 (rangeF (IntKind.i64.wrap (0 - b.rule)) b.rule).lo, .int .i64 (rangeF (IntKind.i64.wrap (0 - b.rule)) b.rule).hi]), (2, .box 24 [.ref 0, .int .i64 b.rule, .int .i64 b.most]), (0, .sl .ro 61 3 b.loads encLoad zLoad), (1, .sl .ro 65 2 on encPlace zPlace)], 5, []⟩) ?_ ?_)
  · refine WP_drawH [] (by kernel_rfl) (by kernel_rfl) ?_
    refine H_run tt_ok [0, 1, 2, 3, 4, 6, 7] (f' := 6) (by kernel_rfl) (by kernel_rfl) (by kernel_rfl) ?_
    refine H_three 5 9 10 (by kernel_rfl) (by kernel_rfl) (by kernel_rfl) (by kernel_rfl) (fun hfz cx' hx1 hx2 => ?_) (fun hfz cx' hx1 hx2 => ?_) (fun hfz cx' hx1 hx2 => ?_)
    · refine CALL 40 [.s (.int .i64 (IntKind.i64.wrap (0 - b.rule))), .s (.int .i64 b.rule)] (.g [.int .i64 (rangeF (IntKind.i64.wrap (0 - b.rule)) b.rule).lo, .int .i64 (rangeF (IntKind.i64.wrap (0 - b.rule)) b.rule).hi]) [] (by kernel_rfl) (goes_of (by kernel_rfl)) (by kernel_rfl) (by kernel_rfl) (fun hG nV w h => rangeF_calls  (IntKind.i64.wrap (0 - b.rule)) b.rule w  ) ?_
      refine WPO_end (by kernel_rfl) ⟨rfl, (hfz.fnds [2, 0, 1] (by kernel_rfl) ⟨by kernel_rfl, by kernel_rfl, by kernel_rfl, trivial⟩ (by kernel_rfl)), ?_⟩
      refine H_three 8 9 10 (by kernel_rfl) (by kernel_rfl) (by kernel_rfl) (by kernel_rfl) (fun hfz cx' hx1 hx2 => ?_) (fun hfz cx' hx1 hx2 => ?_) (fun hfz cx' hx1 hx2 => ?_)
      · refine CALL 108 [.g [.ref 0, .int .i64 b.rule, .int .i64 b.most], .s (.ref 1)] (.g [.int .i64 (listR b on).lo, .int .i64 (listR b on).hi]) [] (by kernel_rfl) (goes_of (by kernel_rfl)) (by kernel_rfl) (by kernel_rfl) (fun hG nV w h => listR_calls (nV 0) (nV 1) b on w (h.reads (id := 0) (kd := .ro) (e := 61) (by kernel_rfl)) (h.reads (id := 1) (kd := .ro) (e := 65) (by kernel_rfl)) (by first | assumption | omega)) ?_
        refine WPO_end (by kernel_rfl) ⟨rfl, (hfz.fnds [2, 0, 1] (by kernel_rfl) ⟨by kernel_rfl, by kernel_rfl, by kernel_rfl, trivial⟩ (by kernel_rfl)), ?_⟩
        refine H_two 9 10 (by kernel_rfl) (by kernel_rfl) (by kernel_rfl) (fun hfz cx' hx1 hx2 => ?_) (fun hfz cx' hx1 hx2 => ?_)
        · refine WPO_all tt_ok (by kernel_rfl) ?_
          refine ⟨rfl, (hfz.fnds [2, 0, 1] (by kernel_rfl) ⟨by kernel_rfl, by kernel_rfl, by kernel_rfl, trivial⟩ (by kernel_rfl)), ?_⟩
          refine H_step 10 (by kernel_rfl) (by kernel_rfl) (fun hfz cx' hx1 hx2 => ?_)
          refine WPO_all tt_ok (by kernel_rfl) ?_
          refine ⟨rfl, (hfz.fnds [2, 0, 1] (by kernel_rfl) ⟨by kernel_rfl, by kernel_rfl, by kernel_rfl, trivial⟩ (by kernel_rfl)), ?_⟩
          refine H_step 11 (by kernel_rfl) (by kernel_rfl) (fun hfz cx' hx1 hx2 => ?_)
          refine WPO_all tt_ok (by kernel_rfl) ?_
          refine ⟨rfl, (hfz.fnds [2, 0, 1] (by kernel_rfl) ⟨by kernel_rfl, by kernel_rfl, by kernel_rfl, trivial⟩ (by kernel_rfl)), ?_⟩
          refine H_step 12 (by kernel_rfl) (by kernel_rfl) (fun hfz cx' hx1 hx2 => ?_)
          refine WPO_all tt_ok (by kernel_rfl) ?_
          refine ⟨rfl, (hfz.fnds [2, 0, 1] (by kernel_rfl) ⟨by kernel_rfl, by kernel_rfl, by kernel_rfl, trivial⟩ (by kernel_rfl)), ?_⟩
          refine H_done (by kernel_rfl) ?_
          exact ⟨(), Le_sel (ts := [6, 5]) (ids := [4, 3, 2, 0, 1]) (nx := 5) (by kernel_rfl)⟩
        · refine WPO_all tt_ok (by kernel_rfl) ?_
          refine ⟨rfl, (hfz.fnds [2, 0, 1] (by kernel_rfl) ⟨by kernel_rfl, by kernel_rfl, by kernel_rfl, trivial⟩ (by kernel_rfl)), ?_⟩
          refine H_step 9 (by kernel_rfl) (by kernel_rfl) (fun hfz cx' hx1 hx2 => ?_)
          refine WPO_all tt_ok (by kernel_rfl) ?_
          refine ⟨rfl, (hfz.fnds [2, 0, 1] (by kernel_rfl) ⟨by kernel_rfl, by kernel_rfl, by kernel_rfl, trivial⟩ (by kernel_rfl)), ?_⟩
          refine H_step 11 (by kernel_rfl) (by kernel_rfl) (fun hfz cx' hx1 hx2 => ?_)
          refine WPO_all tt_ok (by kernel_rfl) ?_
          refine ⟨rfl, (hfz.fnds [2, 0, 1] (by kernel_rfl) ⟨by kernel_rfl, by kernel_rfl, by kernel_rfl, trivial⟩ (by kernel_rfl)), ?_⟩
          refine H_step 12 (by kernel_rfl) (by kernel_rfl) (fun hfz cx' hx1 hx2 => ?_)
          refine WPO_all tt_ok (by kernel_rfl) ?_
          refine ⟨rfl, (hfz.fnds [2, 0, 1] (by kernel_rfl) ⟨by kernel_rfl, by kernel_rfl, by kernel_rfl, trivial⟩ (by kernel_rfl)), ?_⟩
          refine H_done (by kernel_rfl) ?_
          exact ⟨(), Le_ren [(4, 3), (3, 4)] ⟨by kernel_rfl, by kernel_rfl, by kernel_rfl, by kernel_rfl, by kernel_rfl, trivial⟩ ⟨by kernel_rfl, rfl, by kernel_rfl, by kernel_rfl, rfl, by kernel_rfl, trivial⟩ (by kernel_rfl) (by kernel_rfl) (rnm_id (m := 2) (by kernel_rfl)) (by show 2 ≤ 5; decide) (by kernel_rfl) (by kernel_rfl)⟩
      · refine WPO_all tt_ok (by kernel_rfl) ?_
        refine ⟨rfl, (hfz.fnds [2, 0, 1] (by kernel_rfl) ⟨by kernel_rfl, by kernel_rfl, by kernel_rfl, trivial⟩ (by kernel_rfl)), ?_⟩
        refine H_two 8 10 (by kernel_rfl) (by kernel_rfl) (by kernel_rfl) (fun hfz cx' hx1 hx2 => ?_) (fun hfz cx' hx1 hx2 => ?_)
        · refine CALL 108 [.g [.ref 0, .int .i64 b.rule, .int .i64 b.most], .s (.ref 1)] (.g [.int .i64 (listR b on).lo, .int .i64 (listR b on).hi]) [] (by kernel_rfl) (goes_of (by kernel_rfl)) (by kernel_rfl) (by kernel_rfl) (fun hG nV w h => listR_calls (nV 0) (nV 1) b on w (h.reads (id := 0) (kd := .ro) (e := 61) (by kernel_rfl)) (h.reads (id := 1) (kd := .ro) (e := 65) (by kernel_rfl)) (by first | assumption | omega)) ?_
          refine WPO_end (by kernel_rfl) ⟨rfl, (hfz.fnds [2, 0, 1] (by kernel_rfl) ⟨by kernel_rfl, by kernel_rfl, by kernel_rfl, trivial⟩ (by kernel_rfl)), ?_⟩
          refine H_step 10 (by kernel_rfl) (by kernel_rfl) (fun hfz cx' hx1 hx2 => ?_)
          refine WPO_all tt_ok (by kernel_rfl) ?_
          refine ⟨rfl, (hfz.fnds [2, 0, 1] (by kernel_rfl) ⟨by kernel_rfl, by kernel_rfl, by kernel_rfl, trivial⟩ (by kernel_rfl)), ?_⟩
          refine H_step 11 (by kernel_rfl) (by kernel_rfl) (fun hfz cx' hx1 hx2 => ?_)
          refine WPO_all tt_ok (by kernel_rfl) ?_
          refine ⟨rfl, (hfz.fnds [2, 0, 1] (by kernel_rfl) ⟨by kernel_rfl, by kernel_rfl, by kernel_rfl, trivial⟩ (by kernel_rfl)), ?_⟩
          refine H_step 12 (by kernel_rfl) (by kernel_rfl) (fun hfz cx' hx1 hx2 => ?_)
          refine WPO_all tt_ok (by kernel_rfl) ?_
          refine ⟨rfl, (hfz.fnds [2, 0, 1] (by kernel_rfl) ⟨by kernel_rfl, by kernel_rfl, by kernel_rfl, trivial⟩ (by kernel_rfl)), ?_⟩
          refine H_done (by kernel_rfl) ?_
          exact ⟨(), Le_sel (ts := [6, 5]) (ids := [4, 3, 2, 0, 1]) (nx := 5) (by kernel_rfl)⟩
        · refine WPO_all tt_ok (by kernel_rfl) ?_
          refine ⟨rfl, (hfz.fnds [2, 0, 1] (by kernel_rfl) ⟨by kernel_rfl, by kernel_rfl, by kernel_rfl, trivial⟩ (by kernel_rfl)), ?_⟩
          refine H_step 8 (by kernel_rfl) (by kernel_rfl) (fun hfz cx' hx1 hx2 => ?_)
          refine CALL 108 [.g [.ref 0, .int .i64 b.rule, .int .i64 b.most], .s (.ref 1)] (.g [.int .i64 (listR b on).lo, .int .i64 (listR b on).hi]) [] (by kernel_rfl) (goes_of (by kernel_rfl)) (by kernel_rfl) (by kernel_rfl) (fun hG nV w h => listR_calls (nV 0) (nV 1) b on w (h.reads (id := 0) (kd := .ro) (e := 61) (by kernel_rfl)) (h.reads (id := 1) (kd := .ro) (e := 65) (by kernel_rfl)) (by first | assumption | omega)) ?_
          refine WPO_end (by kernel_rfl) ⟨rfl, (hfz.fnds [2, 0, 1] (by kernel_rfl) ⟨by kernel_rfl, by kernel_rfl, by kernel_rfl, trivial⟩ (by kernel_rfl)), ?_⟩
          refine H_step 11 (by kernel_rfl) (by kernel_rfl) (fun hfz cx' hx1 hx2 => ?_)
          refine WPO_all tt_ok (by kernel_rfl) ?_
          refine ⟨rfl, (hfz.fnds [2, 0, 1] (by kernel_rfl) ⟨by kernel_rfl, by kernel_rfl, by kernel_rfl, trivial⟩ (by kernel_rfl)), ?_⟩
          refine H_step 12 (by kernel_rfl) (by kernel_rfl) (fun hfz cx' hx1 hx2 => ?_)
          refine WPO_all tt_ok (by kernel_rfl) ?_
          refine ⟨rfl, (hfz.fnds [2, 0, 1] (by kernel_rfl) ⟨by kernel_rfl, by kernel_rfl, by kernel_rfl, trivial⟩ (by kernel_rfl)), ?_⟩
          refine H_done (by kernel_rfl) ?_
          exact ⟨(), Le_sel (ts := [6, 5]) (ids := [4, 3, 2, 0, 1]) (nx := 5) (by kernel_rfl)⟩
      · refine WPO_all tt_ok (by kernel_rfl) ?_
        refine ⟨rfl, (hfz.fnds [2, 0, 1] (by kernel_rfl) ⟨by kernel_rfl, by kernel_rfl, by kernel_rfl, trivial⟩ (by kernel_rfl)), ?_⟩
        refine H_two 8 9 (by kernel_rfl) (by kernel_rfl) (by kernel_rfl) (fun hfz cx' hx1 hx2 => ?_) (fun hfz cx' hx1 hx2 => ?_)
        · refine CALL 108 [.g [.ref 0, .int .i64 b.rule, .int .i64 b.most], .s (.ref 1)] (.g [.int .i64 (listR b on).lo, .int .i64 (listR b on).hi]) [] (by kernel_rfl) (goes_of (by kernel_rfl)) (by kernel_rfl) (by kernel_rfl) (fun hG nV w h => listR_calls (nV 0) (nV 1) b on w (h.reads (id := 0) (kd := .ro) (e := 61) (by kernel_rfl)) (h.reads (id := 1) (kd := .ro) (e := 65) (by kernel_rfl)) (by first | assumption | omega)) ?_
          refine WPO_end (by kernel_rfl) ⟨rfl, (hfz.fnds [2, 0, 1] (by kernel_rfl) ⟨by kernel_rfl, by kernel_rfl, by kernel_rfl, trivial⟩ (by kernel_rfl)), ?_⟩
          refine H_step 9 (by kernel_rfl) (by kernel_rfl) (fun hfz cx' hx1 hx2 => ?_)
          refine WPO_all tt_ok (by kernel_rfl) ?_
          refine ⟨rfl, (hfz.fnds [2, 0, 1] (by kernel_rfl) ⟨by kernel_rfl, by kernel_rfl, by kernel_rfl, trivial⟩ (by kernel_rfl)), ?_⟩
          refine H_step 11 (by kernel_rfl) (by kernel_rfl) (fun hfz cx' hx1 hx2 => ?_)
          refine WPO_all tt_ok (by kernel_rfl) ?_
          refine ⟨rfl, (hfz.fnds [2, 0, 1] (by kernel_rfl) ⟨by kernel_rfl, by kernel_rfl, by kernel_rfl, trivial⟩ (by kernel_rfl)), ?_⟩
          refine H_step 12 (by kernel_rfl) (by kernel_rfl) (fun hfz cx' hx1 hx2 => ?_)
          refine WPO_all tt_ok (by kernel_rfl) ?_
          refine ⟨rfl, (hfz.fnds [2, 0, 1] (by kernel_rfl) ⟨by kernel_rfl, by kernel_rfl, by kernel_rfl, trivial⟩ (by kernel_rfl)), ?_⟩
          refine H_done (by kernel_rfl) ?_
          exact ⟨(), Le_ren [(4, 3), (3, 4)] ⟨by kernel_rfl, by kernel_rfl, by kernel_rfl, by kernel_rfl, by kernel_rfl, trivial⟩ ⟨by kernel_rfl, rfl, by kernel_rfl, by kernel_rfl, rfl, by kernel_rfl, trivial⟩ (by kernel_rfl) (by kernel_rfl) (rnm_id (m := 2) (by kernel_rfl)) (by show 2 ≤ 5; decide) (by kernel_rfl) (by kernel_rfl)⟩
        · refine WPO_all tt_ok (by kernel_rfl) ?_
          refine ⟨rfl, (hfz.fnds [2, 0, 1] (by kernel_rfl) ⟨by kernel_rfl, by kernel_rfl, by kernel_rfl, trivial⟩ (by kernel_rfl)), ?_⟩
          refine H_step 8 (by kernel_rfl) (by kernel_rfl) (fun hfz cx' hx1 hx2 => ?_)
          refine CALL 108 [.g [.ref 0, .int .i64 b.rule, .int .i64 b.most], .s (.ref 1)] (.g [.int .i64 (listR b on).lo, .int .i64 (listR b on).hi]) [] (by kernel_rfl) (goes_of (by kernel_rfl)) (by kernel_rfl) (by kernel_rfl) (fun hG nV w h => listR_calls (nV 0) (nV 1) b on w (h.reads (id := 0) (kd := .ro) (e := 61) (by kernel_rfl)) (h.reads (id := 1) (kd := .ro) (e := 65) (by kernel_rfl)) (by first | assumption | omega)) ?_
          refine WPO_end (by kernel_rfl) ⟨rfl, (hfz.fnds [2, 0, 1] (by kernel_rfl) ⟨by kernel_rfl, by kernel_rfl, by kernel_rfl, trivial⟩ (by kernel_rfl)), ?_⟩
          refine H_step 11 (by kernel_rfl) (by kernel_rfl) (fun hfz cx' hx1 hx2 => ?_)
          refine WPO_all tt_ok (by kernel_rfl) ?_
          refine ⟨rfl, (hfz.fnds [2, 0, 1] (by kernel_rfl) ⟨by kernel_rfl, by kernel_rfl, by kernel_rfl, trivial⟩ (by kernel_rfl)), ?_⟩
          refine H_step 12 (by kernel_rfl) (by kernel_rfl) (fun hfz cx' hx1 hx2 => ?_)
          refine WPO_all tt_ok (by kernel_rfl) ?_
          refine ⟨rfl, (hfz.fnds [2, 0, 1] (by kernel_rfl) ⟨by kernel_rfl, by kernel_rfl, by kernel_rfl, trivial⟩ (by kernel_rfl)), ?_⟩
          refine H_done (by kernel_rfl) ?_
          exact ⟨(), Le_ren [(4, 3), (3, 4)] ⟨by kernel_rfl, by kernel_rfl, by kernel_rfl, by kernel_rfl, by kernel_rfl, trivial⟩ ⟨by kernel_rfl, rfl, by kernel_rfl, by kernel_rfl, rfl, by kernel_rfl, trivial⟩ (by kernel_rfl) (by kernel_rfl) (rnm_id (m := 2) (by kernel_rfl)) (by show 2 ≤ 5; decide) (by kernel_rfl) (by kernel_rfl)⟩
    · refine WPO_all tt_ok (by kernel_rfl) ?_
      refine ⟨rfl, (hfz.fnds [2, 0, 1] (by kernel_rfl) ⟨by kernel_rfl, by kernel_rfl, by kernel_rfl, trivial⟩ (by kernel_rfl)), ?_⟩
      refine H_two 5 10 (by kernel_rfl) (by kernel_rfl) (by kernel_rfl) (fun hfz cx' hx1 hx2 => ?_) (fun hfz cx' hx1 hx2 => ?_)
      · refine CALL 40 [.s (.int .i64 (IntKind.i64.wrap (0 - b.rule))), .s (.int .i64 b.rule)] (.g [.int .i64 (rangeF (IntKind.i64.wrap (0 - b.rule)) b.rule).lo, .int .i64 (rangeF (IntKind.i64.wrap (0 - b.rule)) b.rule).hi]) [] (by kernel_rfl) (goes_of (by kernel_rfl)) (by kernel_rfl) (by kernel_rfl) (fun hG nV w h => rangeF_calls  (IntKind.i64.wrap (0 - b.rule)) b.rule w  ) ?_
        refine WPO_end (by kernel_rfl) ⟨rfl, (hfz.fnds [2, 0, 1] (by kernel_rfl) ⟨by kernel_rfl, by kernel_rfl, by kernel_rfl, trivial⟩ (by kernel_rfl)), ?_⟩
        refine H_two 8 10 (by kernel_rfl) (by kernel_rfl) (by kernel_rfl) (fun hfz cx' hx1 hx2 => ?_) (fun hfz cx' hx1 hx2 => ?_)
        · refine CALL 108 [.g [.ref 0, .int .i64 b.rule, .int .i64 b.most], .s (.ref 1)] (.g [.int .i64 (listR b on).lo, .int .i64 (listR b on).hi]) [] (by kernel_rfl) (goes_of (by kernel_rfl)) (by kernel_rfl) (by kernel_rfl) (fun hG nV w h => listR_calls (nV 0) (nV 1) b on w (h.reads (id := 0) (kd := .ro) (e := 61) (by kernel_rfl)) (h.reads (id := 1) (kd := .ro) (e := 65) (by kernel_rfl)) (by first | assumption | omega)) ?_
          refine WPO_end (by kernel_rfl) ⟨rfl, (hfz.fnds [2, 0, 1] (by kernel_rfl) ⟨by kernel_rfl, by kernel_rfl, by kernel_rfl, trivial⟩ (by kernel_rfl)), ?_⟩
          refine H_step 10 (by kernel_rfl) (by kernel_rfl) (fun hfz cx' hx1 hx2 => ?_)
          refine WPO_all tt_ok (by kernel_rfl) ?_
          refine ⟨rfl, (hfz.fnds [2, 0, 1] (by kernel_rfl) ⟨by kernel_rfl, by kernel_rfl, by kernel_rfl, trivial⟩ (by kernel_rfl)), ?_⟩
          refine H_step 11 (by kernel_rfl) (by kernel_rfl) (fun hfz cx' hx1 hx2 => ?_)
          refine WPO_all tt_ok (by kernel_rfl) ?_
          refine ⟨rfl, (hfz.fnds [2, 0, 1] (by kernel_rfl) ⟨by kernel_rfl, by kernel_rfl, by kernel_rfl, trivial⟩ (by kernel_rfl)), ?_⟩
          refine H_step 12 (by kernel_rfl) (by kernel_rfl) (fun hfz cx' hx1 hx2 => ?_)
          refine WPO_all tt_ok (by kernel_rfl) ?_
          refine ⟨rfl, (hfz.fnds [2, 0, 1] (by kernel_rfl) ⟨by kernel_rfl, by kernel_rfl, by kernel_rfl, trivial⟩ (by kernel_rfl)), ?_⟩
          refine H_done (by kernel_rfl) ?_
          exact ⟨(), Le_sel (ts := [6, 5]) (ids := [4, 3, 2, 0, 1]) (nx := 5) (by kernel_rfl)⟩
        · refine WPO_all tt_ok (by kernel_rfl) ?_
          refine ⟨rfl, (hfz.fnds [2, 0, 1] (by kernel_rfl) ⟨by kernel_rfl, by kernel_rfl, by kernel_rfl, trivial⟩ (by kernel_rfl)), ?_⟩
          refine H_step 8 (by kernel_rfl) (by kernel_rfl) (fun hfz cx' hx1 hx2 => ?_)
          refine CALL 108 [.g [.ref 0, .int .i64 b.rule, .int .i64 b.most], .s (.ref 1)] (.g [.int .i64 (listR b on).lo, .int .i64 (listR b on).hi]) [] (by kernel_rfl) (goes_of (by kernel_rfl)) (by kernel_rfl) (by kernel_rfl) (fun hG nV w h => listR_calls (nV 0) (nV 1) b on w (h.reads (id := 0) (kd := .ro) (e := 61) (by kernel_rfl)) (h.reads (id := 1) (kd := .ro) (e := 65) (by kernel_rfl)) (by first | assumption | omega)) ?_
          refine WPO_end (by kernel_rfl) ⟨rfl, (hfz.fnds [2, 0, 1] (by kernel_rfl) ⟨by kernel_rfl, by kernel_rfl, by kernel_rfl, trivial⟩ (by kernel_rfl)), ?_⟩
          refine H_step 11 (by kernel_rfl) (by kernel_rfl) (fun hfz cx' hx1 hx2 => ?_)
          refine WPO_all tt_ok (by kernel_rfl) ?_
          refine ⟨rfl, (hfz.fnds [2, 0, 1] (by kernel_rfl) ⟨by kernel_rfl, by kernel_rfl, by kernel_rfl, trivial⟩ (by kernel_rfl)), ?_⟩
          refine H_step 12 (by kernel_rfl) (by kernel_rfl) (fun hfz cx' hx1 hx2 => ?_)
          refine WPO_all tt_ok (by kernel_rfl) ?_
          refine ⟨rfl, (hfz.fnds [2, 0, 1] (by kernel_rfl) ⟨by kernel_rfl, by kernel_rfl, by kernel_rfl, trivial⟩ (by kernel_rfl)), ?_⟩
          refine H_done (by kernel_rfl) ?_
          exact ⟨(), Le_sel (ts := [6, 5]) (ids := [4, 3, 2, 0, 1]) (nx := 5) (by kernel_rfl)⟩
      · refine WPO_all tt_ok (by kernel_rfl) ?_
        refine ⟨rfl, (hfz.fnds [2, 0, 1] (by kernel_rfl) ⟨by kernel_rfl, by kernel_rfl, by kernel_rfl, trivial⟩ (by kernel_rfl)), ?_⟩
        refine H_step 5 (by kernel_rfl) (by kernel_rfl) (fun hfz cx' hx1 hx2 => ?_)
        refine CALL 40 [.s (.int .i64 (IntKind.i64.wrap (0 - b.rule))), .s (.int .i64 b.rule)] (.g [.int .i64 (rangeF (IntKind.i64.wrap (0 - b.rule)) b.rule).lo, .int .i64 (rangeF (IntKind.i64.wrap (0 - b.rule)) b.rule).hi]) [] (by kernel_rfl) (goes_of (by kernel_rfl)) (by kernel_rfl) (by kernel_rfl) (fun hG nV w h => rangeF_calls  (IntKind.i64.wrap (0 - b.rule)) b.rule w  ) ?_
        refine WPO_end (by kernel_rfl) ⟨rfl, (hfz.fnds [2, 0, 1] (by kernel_rfl) ⟨by kernel_rfl, by kernel_rfl, by kernel_rfl, trivial⟩ (by kernel_rfl)), ?_⟩
        refine H_step 8 (by kernel_rfl) (by kernel_rfl) (fun hfz cx' hx1 hx2 => ?_)
        refine CALL 108 [.g [.ref 0, .int .i64 b.rule, .int .i64 b.most], .s (.ref 1)] (.g [.int .i64 (listR b on).lo, .int .i64 (listR b on).hi]) [] (by kernel_rfl) (goes_of (by kernel_rfl)) (by kernel_rfl) (by kernel_rfl) (fun hG nV w h => listR_calls (nV 0) (nV 1) b on w (h.reads (id := 0) (kd := .ro) (e := 61) (by kernel_rfl)) (h.reads (id := 1) (kd := .ro) (e := 65) (by kernel_rfl)) (by first | assumption | omega)) ?_
        refine WPO_end (by kernel_rfl) ⟨rfl, (hfz.fnds [2, 0, 1] (by kernel_rfl) ⟨by kernel_rfl, by kernel_rfl, by kernel_rfl, trivial⟩ (by kernel_rfl)), ?_⟩
        refine H_step 11 (by kernel_rfl) (by kernel_rfl) (fun hfz cx' hx1 hx2 => ?_)
        refine WPO_all tt_ok (by kernel_rfl) ?_
        refine ⟨rfl, (hfz.fnds [2, 0, 1] (by kernel_rfl) ⟨by kernel_rfl, by kernel_rfl, by kernel_rfl, trivial⟩ (by kernel_rfl)), ?_⟩
        refine H_step 12 (by kernel_rfl) (by kernel_rfl) (fun hfz cx' hx1 hx2 => ?_)
        refine WPO_all tt_ok (by kernel_rfl) ?_
        refine ⟨rfl, (hfz.fnds [2, 0, 1] (by kernel_rfl) ⟨by kernel_rfl, by kernel_rfl, by kernel_rfl, trivial⟩ (by kernel_rfl)), ?_⟩
        refine H_done (by kernel_rfl) ?_
        exact ⟨(), Le_sel (ts := [6, 5]) (ids := [4, 3, 2, 0, 1]) (nx := 5) (by kernel_rfl)⟩
    · refine WPO_all tt_ok (by kernel_rfl) ?_
      refine ⟨rfl, (hfz.fnds [2, 0, 1] (by kernel_rfl) ⟨by kernel_rfl, by kernel_rfl, by kernel_rfl, trivial⟩ (by kernel_rfl)), ?_⟩
      refine H_two 5 9 (by kernel_rfl) (by kernel_rfl) (by kernel_rfl) (fun hfz cx' hx1 hx2 => ?_) (fun hfz cx' hx1 hx2 => ?_)
      · refine CALL 40 [.s (.int .i64 (IntKind.i64.wrap (0 - b.rule))), .s (.int .i64 b.rule)] (.g [.int .i64 (rangeF (IntKind.i64.wrap (0 - b.rule)) b.rule).lo, .int .i64 (rangeF (IntKind.i64.wrap (0 - b.rule)) b.rule).hi]) [] (by kernel_rfl) (goes_of (by kernel_rfl)) (by kernel_rfl) (by kernel_rfl) (fun hG nV w h => rangeF_calls  (IntKind.i64.wrap (0 - b.rule)) b.rule w  ) ?_
        refine WPO_end (by kernel_rfl) ⟨rfl, (hfz.fnds [2, 0, 1] (by kernel_rfl) ⟨by kernel_rfl, by kernel_rfl, by kernel_rfl, trivial⟩ (by kernel_rfl)), ?_⟩
        refine H_two 8 9 (by kernel_rfl) (by kernel_rfl) (by kernel_rfl) (fun hfz cx' hx1 hx2 => ?_) (fun hfz cx' hx1 hx2 => ?_)
        · refine CALL 108 [.g [.ref 0, .int .i64 b.rule, .int .i64 b.most], .s (.ref 1)] (.g [.int .i64 (listR b on).lo, .int .i64 (listR b on).hi]) [] (by kernel_rfl) (goes_of (by kernel_rfl)) (by kernel_rfl) (by kernel_rfl) (fun hG nV w h => listR_calls (nV 0) (nV 1) b on w (h.reads (id := 0) (kd := .ro) (e := 61) (by kernel_rfl)) (h.reads (id := 1) (kd := .ro) (e := 65) (by kernel_rfl)) (by first | assumption | omega)) ?_
          refine WPO_end (by kernel_rfl) ⟨rfl, (hfz.fnds [2, 0, 1] (by kernel_rfl) ⟨by kernel_rfl, by kernel_rfl, by kernel_rfl, trivial⟩ (by kernel_rfl)), ?_⟩
          refine H_step 9 (by kernel_rfl) (by kernel_rfl) (fun hfz cx' hx1 hx2 => ?_)
          refine WPO_all tt_ok (by kernel_rfl) ?_
          refine ⟨rfl, (hfz.fnds [2, 0, 1] (by kernel_rfl) ⟨by kernel_rfl, by kernel_rfl, by kernel_rfl, trivial⟩ (by kernel_rfl)), ?_⟩
          refine H_step 11 (by kernel_rfl) (by kernel_rfl) (fun hfz cx' hx1 hx2 => ?_)
          refine WPO_all tt_ok (by kernel_rfl) ?_
          refine ⟨rfl, (hfz.fnds [2, 0, 1] (by kernel_rfl) ⟨by kernel_rfl, by kernel_rfl, by kernel_rfl, trivial⟩ (by kernel_rfl)), ?_⟩
          refine H_step 12 (by kernel_rfl) (by kernel_rfl) (fun hfz cx' hx1 hx2 => ?_)
          refine WPO_all tt_ok (by kernel_rfl) ?_
          refine ⟨rfl, (hfz.fnds [2, 0, 1] (by kernel_rfl) ⟨by kernel_rfl, by kernel_rfl, by kernel_rfl, trivial⟩ (by kernel_rfl)), ?_⟩
          refine H_done (by kernel_rfl) ?_
          exact ⟨(), Le_ren [(4, 3), (3, 4)] ⟨by kernel_rfl, by kernel_rfl, by kernel_rfl, by kernel_rfl, by kernel_rfl, trivial⟩ ⟨by kernel_rfl, rfl, by kernel_rfl, by kernel_rfl, rfl, by kernel_rfl, trivial⟩ (by kernel_rfl) (by kernel_rfl) (rnm_id (m := 2) (by kernel_rfl)) (by show 2 ≤ 5; decide) (by kernel_rfl) (by kernel_rfl)⟩
        · refine WPO_all tt_ok (by kernel_rfl) ?_
          refine ⟨rfl, (hfz.fnds [2, 0, 1] (by kernel_rfl) ⟨by kernel_rfl, by kernel_rfl, by kernel_rfl, trivial⟩ (by kernel_rfl)), ?_⟩
          refine H_step 8 (by kernel_rfl) (by kernel_rfl) (fun hfz cx' hx1 hx2 => ?_)
          refine CALL 108 [.g [.ref 0, .int .i64 b.rule, .int .i64 b.most], .s (.ref 1)] (.g [.int .i64 (listR b on).lo, .int .i64 (listR b on).hi]) [] (by kernel_rfl) (goes_of (by kernel_rfl)) (by kernel_rfl) (by kernel_rfl) (fun hG nV w h => listR_calls (nV 0) (nV 1) b on w (h.reads (id := 0) (kd := .ro) (e := 61) (by kernel_rfl)) (h.reads (id := 1) (kd := .ro) (e := 65) (by kernel_rfl)) (by first | assumption | omega)) ?_
          refine WPO_end (by kernel_rfl) ⟨rfl, (hfz.fnds [2, 0, 1] (by kernel_rfl) ⟨by kernel_rfl, by kernel_rfl, by kernel_rfl, trivial⟩ (by kernel_rfl)), ?_⟩
          refine H_step 11 (by kernel_rfl) (by kernel_rfl) (fun hfz cx' hx1 hx2 => ?_)
          refine WPO_all tt_ok (by kernel_rfl) ?_
          refine ⟨rfl, (hfz.fnds [2, 0, 1] (by kernel_rfl) ⟨by kernel_rfl, by kernel_rfl, by kernel_rfl, trivial⟩ (by kernel_rfl)), ?_⟩
          refine H_step 12 (by kernel_rfl) (by kernel_rfl) (fun hfz cx' hx1 hx2 => ?_)
          refine WPO_all tt_ok (by kernel_rfl) ?_
          refine ⟨rfl, (hfz.fnds [2, 0, 1] (by kernel_rfl) ⟨by kernel_rfl, by kernel_rfl, by kernel_rfl, trivial⟩ (by kernel_rfl)), ?_⟩
          refine H_done (by kernel_rfl) ?_
          exact ⟨(), Le_ren [(4, 3), (3, 4)] ⟨by kernel_rfl, by kernel_rfl, by kernel_rfl, by kernel_rfl, by kernel_rfl, trivial⟩ ⟨by kernel_rfl, rfl, by kernel_rfl, by kernel_rfl, rfl, by kernel_rfl, trivial⟩ (by kernel_rfl) (by kernel_rfl) (rnm_id (m := 2) (by kernel_rfl)) (by show 2 ≤ 5; decide) (by kernel_rfl) (by kernel_rfl)⟩
      · refine WPO_all tt_ok (by kernel_rfl) ?_
        refine ⟨rfl, (hfz.fnds [2, 0, 1] (by kernel_rfl) ⟨by kernel_rfl, by kernel_rfl, by kernel_rfl, trivial⟩ (by kernel_rfl)), ?_⟩
        refine H_step 5 (by kernel_rfl) (by kernel_rfl) (fun hfz cx' hx1 hx2 => ?_)
        refine CALL 40 [.s (.int .i64 (IntKind.i64.wrap (0 - b.rule))), .s (.int .i64 b.rule)] (.g [.int .i64 (rangeF (IntKind.i64.wrap (0 - b.rule)) b.rule).lo, .int .i64 (rangeF (IntKind.i64.wrap (0 - b.rule)) b.rule).hi]) [] (by kernel_rfl) (goes_of (by kernel_rfl)) (by kernel_rfl) (by kernel_rfl) (fun hG nV w h => rangeF_calls  (IntKind.i64.wrap (0 - b.rule)) b.rule w  ) ?_
        refine WPO_end (by kernel_rfl) ⟨rfl, (hfz.fnds [2, 0, 1] (by kernel_rfl) ⟨by kernel_rfl, by kernel_rfl, by kernel_rfl, trivial⟩ (by kernel_rfl)), ?_⟩
        refine H_step 8 (by kernel_rfl) (by kernel_rfl) (fun hfz cx' hx1 hx2 => ?_)
        refine CALL 108 [.g [.ref 0, .int .i64 b.rule, .int .i64 b.most], .s (.ref 1)] (.g [.int .i64 (listR b on).lo, .int .i64 (listR b on).hi]) [] (by kernel_rfl) (goes_of (by kernel_rfl)) (by kernel_rfl) (by kernel_rfl) (fun hG nV w h => listR_calls (nV 0) (nV 1) b on w (h.reads (id := 0) (kd := .ro) (e := 61) (by kernel_rfl)) (h.reads (id := 1) (kd := .ro) (e := 65) (by kernel_rfl)) (by first | assumption | omega)) ?_
        refine WPO_end (by kernel_rfl) ⟨rfl, (hfz.fnds [2, 0, 1] (by kernel_rfl) ⟨by kernel_rfl, by kernel_rfl, by kernel_rfl, trivial⟩ (by kernel_rfl)), ?_⟩
        refine H_step 11 (by kernel_rfl) (by kernel_rfl) (fun hfz cx' hx1 hx2 => ?_)
        refine WPO_all tt_ok (by kernel_rfl) ?_
        refine ⟨rfl, (hfz.fnds [2, 0, 1] (by kernel_rfl) ⟨by kernel_rfl, by kernel_rfl, by kernel_rfl, trivial⟩ (by kernel_rfl)), ?_⟩
        refine H_step 12 (by kernel_rfl) (by kernel_rfl) (fun hfz cx' hx1 hx2 => ?_)
        refine WPO_all tt_ok (by kernel_rfl) ?_
        refine ⟨rfl, (hfz.fnds [2, 0, 1] (by kernel_rfl) ⟨by kernel_rfl, by kernel_rfl, by kernel_rfl, trivial⟩ (by kernel_rfl)), ?_⟩
        refine H_done (by kernel_rfl) ?_
        exact ⟨(), Le_ren [(4, 3), (3, 4)] ⟨by kernel_rfl, by kernel_rfl, by kernel_rfl, by kernel_rfl, by kernel_rfl, trivial⟩ ⟨by kernel_rfl, rfl, by kernel_rfl, by kernel_rfl, rfl, by kernel_rfl, trivial⟩ (by kernel_rfl) (by kernel_rfl) (rnm_id (m := 2) (by kernel_rfl)) (by show 2 ≤ 5; decide) (by kernel_rfl) (by kernel_rfl)⟩
  intro _
  refine WP_seq (WP_seq (WP_region (WPO_run tt_ok 2 (by kernel_rfl) ?_)))
  refine CALL 41 [.g [.int .i64 (rangeF (IntKind.i64.wrap (0 - b.rule)) b.rule).lo, .int .i64 (rangeF (IntKind.i64.wrap (0 - b.rule)) b.rule).hi], .g [.int .i64 (listR b on).lo, .int .i64 (listR b on).hi]] (.s (.bool (coversF (rangeF (IntKind.i64.wrap (0 - b.rule)) b.rule) (listR b on)))) [] (by kernel_rfl) (goes_of (by kernel_rfl)) (by kernel_rfl) (by kernel_rfl) (fun hG nV w h => coversF_calls  (rangeF (IntKind.i64.wrap (0 - b.rule)) b.rule) (listR b on) w  ) ?_
  refine WPO_nil ?_
  refine WP_cond ((coversF (rangeF (IntKind.i64.wrap (0 - b.rule)) b.rule) (listR b on))) (by kernel_rfl) (fun hc2 => ?_) (fun hc2 => ?_)
  · refine WP_seq (WP_region (WPO_all tt_ok (by kernel_rfl) ?_))
    refine WP_ret ?_
    exact ⟨.s (.int .i64 2), by kernel_rfl, fun nV w' h => ⟨by rw [show levelR b on = 2 from by unfold levelR; simp only [hc2, cond_true, cond_false]]; rfl, h.bel⟩⟩
  refine WP_skip ?_
  refine WP_seq (WP_seq (WP_region (WPO_run tt_ok 2 (by kernel_rfl) ?_)))
  refine CALL 125 [.g [.int .i64 (rangeF (IntKind.i64.wrap (0 - b.rule)) b.rule).lo, .int .i64 (rangeF (IntKind.i64.wrap (0 - b.rule)) b.rule).hi], .g [.int .i64 (listR b on).lo, .int .i64 (listR b on).hi]] (.g [.int .i64 (meetF (rangeF (IntKind.i64.wrap (0 - b.rule)) b.rule) (listR b on)).lo, .int .i64 (meetF (rangeF (IntKind.i64.wrap (0 - b.rule)) b.rule) (listR b on)).hi]) [] (by kernel_rfl) (goes_of (by kernel_rfl)) (by kernel_rfl) (by kernel_rfl) (fun hG nV w h => meetF_calls  (rangeF (IntKind.i64.wrap (0 - b.rule)) b.rule) (listR b on) w  ) ?_
  refine WPO_all tt_ok (by kernel_rfl) ?_
  refine WP_seq (WP_region (WPO_all tt_ok (by kernel_rfl) ?_))
  refine WP_cond (decide ((meetF (rangeF (IntKind.i64.wrap (0 - b.rule)) b.rule) (listR b on)).lo ≤ (meetF (rangeF (IntKind.i64.wrap (0 - b.rule)) b.rule) (listR b on)).hi)) (by kernel_rfl) (fun hc4 => ?_) (fun hc4 => ?_)
  · have hc4' := of_decide_eq_true hc4
    refine WP_seq (WP_region (WPO_all tt_ok (by kernel_rfl) ?_))
    refine WP_ret ?_
    exact ⟨.s (.int .i64 1), by kernel_rfl, fun nV w' h => ⟨by rw [show levelR b on = 1 from by unfold levelR; simp only [hc2, hc4, cond_true, cond_false]]; rfl, h.bel⟩⟩
  have hc4' := of_decide_eq_false hc4
  refine WP_skip ?_
  refine WP_seq (WP_region (WPO_all tt_ok (by kernel_rfl) ?_))
  refine WP_ret ?_
  exact ⟨.s (.int .i64 0), by kernel_rfl, fun nV w' h => ⟨by rw [show levelR b on = 0 from by unfold levelR; simp only [hc2, hc4, cond_true, cond_false]]; rfl, h.bel⟩⟩
end Go.Proofs.YthfnedbpmdkdjaaDoor.D
namespace Go.Proofs.YthfnedbpmdkdjaaDoor.D
open Go Go.RowKit Go.Proofs.YthfnedbpmdkdjaaDoor.Eng Go.Proofs.YthfnedbpmdkdjaaDoor.Cm
set_option linter.unusedVariables false
set_option linter.unusedSimpArgs false
set_option linter.unusedSectionVars false
theorem keptLoads_self (l : List Load) : keptLoadsF l l = true := by
  unfold keptLoadsF
  rw [loopR_all (fun _ => true) (fun k v hk => by simp only [keptLoadsF_c1]; rw [decide_eq_true (by omega)]; simp) (fun k hk => by simp only [keptLoadsF_b1]; rw [beq_self_eq_true])]
  simp
theorem keptDeck_self (b : DBook) : keptDeckF b b = true := by
  unfold keptDeckF
  rw [keptLoads_self, beq_self_eq_true, beq_self_eq_true]; rfl
def okLoadR (x : Load) : Bool := ((validF x.w 1 60) && (decide ((IntKind.i64.wrap (x.w.hi - x.w.lo)) ≤ 4))) && (insideF x.lanes 1 7)
theorem okLoadR_iff {x : Load} : okLoadR x = true ↔ (1 ≤ x.w.lo ∧ x.w.lo ≤ x.w.hi ∧ x.w.hi ≤ 60 ∧ x.w.hi - x.w.lo ≤ 4) ∧ (1 ≤ x.lanes ∧ x.lanes ≤ 7) := by
  unfold okLoadR
  simp only [validF, insideF, Bool.and_eq_true, decide_eq_true_eq]
  constructor
  · rintro ⟨⟨⟨⟨h1, h2⟩, h3⟩, h4⟩, h5⟩
    rw [wrapI (by omega) (by omega)] at h4
    omega
  · rintro ⟨⟨h1, h2, h3, h4⟩, h5⟩
    rw [wrapI (by omega) (by omega)]
    omega
theorem checkR_eq (b : DBook) : checkR b = bif ((((insideF (b.loads.length : Int) 1 5) && (insideF b.rule 0 30)) && (insideF b.most 1 200)) && (List.range b.loads.length).all fun k => okLoadR (b.loads.getD k zLoad)) then 0 else 30 := by
  unfold checkR
  rw [loopR_all (fun k => okLoadR (b.loads.getD k zLoad)) (fun k v hk => by simp only [checkR_c1]; rw [decide_eq_true (by omega), Bool.and_true]) (fun k hk => rfl)]
  simp only
  cases (_ && (List.range b.loads.length).all fun k => okLoadR (b.loads.getD k zLoad)) <;> rfl
theorem checkR_valid {b : DBook} : checkR b = 0 ↔ ValidD b := by
  rw [checkR_eq]
  constructor
  · intro h
    have h2 : ((((insideF (b.loads.length : Int) 1 5) && (insideF b.rule 0 30)) && (insideF b.most 1 200)) && (List.range b.loads.length).all fun k => okLoadR (b.loads.getD k zLoad)) = true := by
      cases hc : ((((insideF (b.loads.length : Int) 1 5) && (insideF b.rule 0 30)) && (insideF b.most 1 200)) && (List.range b.loads.length).all fun k => okLoadR (b.loads.getD k zLoad)) with
      | true => rfl
      | false => rw [hc] at h; cases h
    simp only [insideF, Bool.and_eq_true, decide_eq_true_eq, List.all_eq_true, List.mem_range] at h2
    refine ⟨by omega, by omega, by omega, fun x hx => ?_⟩
    obtain ⟨k, hk, rfl⟩ := List.mem_iff_getElem.1 hx
    have := okLoadR_iff.1 (h2.2 k hk)
    rwa [List.getD_eq_getElem?_getD, List.getElem?_eq_getElem hk] at this
  · intro h
    have h2 : ((((insideF (b.loads.length : Int) 1 5) && (insideF b.rule 0 30)) && (insideF b.most 1 200)) && (List.range b.loads.length).all fun k => okLoadR (b.loads.getD k zLoad)) = true := by
      have h1 := h.n
      have h3 := h.rule
      have h4 := h.most
      simp only [insideF, Bool.and_eq_true, decide_eq_true_eq, List.all_eq_true, List.mem_range]
      exact ⟨⟨⟨by omega, by omega⟩, by omega⟩, fun k hk => okLoadR_iff.2 (h.load hk)⟩
    rw [h2]; rfl
theorem check_same (b : DBook) : checkD b = checkR b := by
  rcases checkD_two b with h | h
  · rw [h, checkR_valid.2 (checkD_valid.1 h)]
  · rw [h, checkR_eq]
    cases hc : ((((insideF (b.loads.length : Int) 1 5) && (insideF b.rule 0 30)) && (insideF b.most 1 200)) && (List.range b.loads.length).all fun k => okLoadR (b.loads.getD k zLoad)) with
    | false => rfl
    | true =>
      have h2 : checkR b = 0 := by rw [checkR_eq, hc]; rfl
      rw [checkD_valid.2 (checkR_valid.1 h2)] at h; cases h
theorem listR_eq {b : DBook} (hv : ValidD b) {on : List Place} (hpl : ∀ x ∈ on, isPl b x.load x.lane = true) (hlen : on.length ≤ 5) : listR b on = accD b on on.length := by
  unfold listR
  rcases loopR_keep (c := listR_c1 b on) (b := listR_b1 b on) (N := on.length) (fun k v => v = ((accD b on k).lo, (accD b on k).hi)) (fun _ => False) (fun k v hk _ => by obtain ⟨v1, v2⟩ := v; simp only [listR_c1]; rw [decide_eq_true]; omega) (fun k v hk hp => by
    subst hp
    refine .inl ⟨_, rfl, ?_⟩
    have hB := acc_bounds hv hpl hlen k (by omega)
    have hs := isPl_spec (hpl _ (getD_mem (z := zPlace) hk))
    have hw := (hv.load (k := (on.getD k zPlace).load.toNat) (by omega)).1
    rw [accD_succ hk]
    unfold stepD laneF
    by_cases e0 : (on.getD k zPlace).lane = 0
    · rw [if_pos e0, show ((on.getD k zPlace).lane == 0) = true from beq_iff_eq.2 e0, show ((on.getD k zPlace).lane == 2) = false from beq_eq_false_iff_ne.2 (by omega)]
      simp only [cond_true, cond_false]
      rfl
    · rw [if_neg e0, show ((on.getD k zPlace).lane == 0) = false from beq_eq_false_iff_ne.2 e0]
      by_cases e1 : (on.getD k zPlace).lane = 1
      · rw [if_pos e1, show ((on.getD k zPlace).lane == 2) = false from beq_eq_false_iff_ne.2 (by omega)]
        simp only [cond_false]
        rfl
      · rw [if_neg e1, show ((on.getD k zPlace).lane == 2) = true from beq_iff_eq.2 (by omega)]
        simp only [cond_true, cond_false, addedF, rangeF, starD]
        rw [wrapI (x := 0 - _) (by omega) (by omega), wrapI (x := 0 - _) (by omega) (by omega), wrapI (by omega) (by omega), wrapI (by omega) (by omega), wrapI (by omega) (by omega), wrapI (by omega) (by omega)]
        congr 1 <;> omega) ((pointF 0).lo, (pointF 0).hi) rfl with ⟨v, e, hp⟩ | ⟨r, e, hf⟩
  · rw [e, hp]
  · exact hf.elim
theorem covers_rule (r : Int) (l : Span) : coversF (rangeF (-r) r) l = decide (-r ≤ l.lo ∧ l.hi ≤ r) := by
  unfold coversF rangeF
  rw [Bool.eq_iff_iff, Bool.and_eq_true, decide_eq_true_eq, decide_eq_true_eq, decide_eq_true_eq]
theorem meet_rule (r : Int) (l : Span) : (decide ((meetF (rangeF (-r) r) l).lo ≤ (meetF (rangeF (-r) r) l).hi)) = decide (max (-r) l.lo ≤ min r l.hi) := by
  unfold meetF rangeF
  rw [mx_spec, mn_spec]
theorem levelR_eq {b : DBook} (hv : ValidD b) {on : List Place} (hpl : ∀ x ∈ on, isPl b x.load x.lane = true) (hlen : on.length ≤ 5) : levelR b on = levelD b (accD b on on.length) := by
  unfold levelR
  rw [listR_eq hv hpl hlen, rule_wrap hv]
  have hB := acc_bounds hv hpl hlen on.length (Nat.le_refl _)
  generalize accD b on on.length = l at *
  have hr := hv.rule
  rw [covers_rule, meet_rule]
  rcases level_cases hv hB.2.1 with ⟨e, h1⟩ | ⟨e, h1, h2⟩ | ⟨e, h1, h2⟩
  · rw [e, decide_eq_true h1]; rfl
  · rw [e, decide_eq_false h1, decide_eq_true (by omega)]; rfl
  · rw [e, decide_eq_false h1, decide_eq_false (by omega)]; rfl
end Go.Proofs.YthfnedbpmdkdjaaDoor.D
