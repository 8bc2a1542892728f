/-
  DeckNever: for every book and every number the law returns true, and leaves the book as it was. Conditions: none but the row's own.
-/
import Derived.Test.YthfnedbpmdkdjaaDoorDeckNeverA2
import Derived.ArgAppend
import Derived.Below
import Derived.Carry
import Derived.ChangeKeysEq
import Derived.ControlIn
import Derived.Deep.DeepHandedRow
import Derived.Deep.DeepWitnessRowRef
import Derived.Deep.Draws
import Derived.Deep.Quiet
import Derived.Deep.Slices
import Derived.KernelRfl
import Derived.LaidMore
import Derived.Laws.AppendOwn
import Derived.Laws.Cells
import Derived.Laws.CopyRow
import Derived.Laws.IdiomRangeMap
import Derived.Laws.OwnMore
import Derived.Laws.Rows
import Derived.MapKept
import Derived.Maps.AppendAt
import Derived.OpenShut
import Derived.OrdersHeld
import Derived.OrdersIn
import Derived.ProofKit
import Derived.RangeFuncLeaves
import Derived.RangeFuncNested
import Derived.RangeFuncOwn
import Derived.SevenTiedAt
import Derived.SizedLaws
import Derived.Stop.Joined
import Derived.Test.YthfnedbpmdkdjaaDoorCards
import Derived.Test.YthfnedbpmdkdjaaDoorProg
import Derived.Test.YthfnedbpmdkdjaaDoorRows
import Derived.Test.YthfnedbpmdkdjaaDoorTie
import Derived.WalkKit
import Derived.WideKeyRuns
namespace Go.Proofs.YthfnedbpmdkdjaaDoor.D
open Go Go.RowKit Go.Proofs.YthfnedbpmdkdjaaDoor.Eng Go.Proofs.YthfnedbpmdkdjaaDoor.Cm
set_option linter.unusedVariables false
set_option linter.unusedSimpArgs false
set_option linter.unusedSectionVars false
def crossD (b : DBook) (S : List (Int × Bool)) : Nat → List Int → List Int → List Int × Bool
  | 0 => crossS b S fun _ _ => ([], false)
  | r + 1 => crossS b S (crossD b S r)
theorem cross_ok {b : DBook} (S : List (Int × Bool)) (hb5 : b.loads.length ≤ 5) (sv : Value) (gx gt gs gc : Nat) : ∀ r : Nat, CrossC b S sv gx gt gs gc (fun n m => n + r = b.loads.length ∧ m ≤ 5) (crossD b S r) := by
  intro r
  induction r with
  | zero =>
    intro tv uv so of w hR rb rs ro hx hs hc hms
    exact crossS_calls b S (fun _ _ => ([], false)) (fun _ _ => False) so of sv tv uv gx gt gs gc w rb rs ro hx hs hc hms hb5 (by omega) hR.2 (fun _ _ _ _ _ h => h.elim) (fun h => by omega)
  | succ r ih =>
    intro tv uv so of w hR rb rs ro hx hs hc hms
    exact crossS_calls b S (crossD b S r) (fun n m => n + r = b.loads.length ∧ m ≤ 5) so of sv tv uv gx gt gs gc w rb rs ro hx hs hc hms hb5 (by omega) hR.2 ih (fun h => ⟨by omega, hR.2⟩)
theorem cross_top {b : DBook} (S : List (Int × Bool)) (hb5 : b.loads.length ≤ 5) (a0 uv x t c cl : Value) (gx gt gs gc : Nat) (of : List Int) (w : World) (hof : of.length ≤ 5) (rb : Reads w a0 3 b.loads encLoad zLoad) (ro : Reads w uv 1 of encI 0) (hms : w.heap[gs]? = some (.map (ents S stKey stVal) S.length)) (hx : x = .pointer (some ⟨gx, 0, none⟩)) (ht : t = .pointer (some ⟨gt, 0, none⟩)) (hc : c = .pointer (some ⟨gc, 0, none⟩))
    (hxh : w.heap[gx]? = some (.cells #[a0, iv b.rule, iv b.most] 24 (0, 0))) (hth : w.heap[gt]? = some (.cells #[.map (some gs)] 109 (0, 0))) (hcl : cl = .func (.func 98) #[] #[ptrAt x 0, ptrAt t 0, ptrAt c 0]) (hch : w.heap[gc]? = some (.cells #[cl] 112 (0, 0))) :
    Calls Tryd.prog 98 #[.slice none 0 0, uv, ptrAt x 0, ptrAt t 0, ptrAt c 0] w fun e w' => ∃ v, e = .returned (.tuple #[v, .bool (crossD b S b.loads.length [] of).2]) ∧ Below w.heap.size w w' ∧ Reads w' v 1 (crossD b S b.loads.length [] of).1 encI 0 ∧ (∀ g, vblk v = some g → w.heap.size ≤ g ∧ g < w'.heap.size) := by
  subst hx ht hc
  simp only [ptrAt, Nat.add_zero] at *
  subst hcl
  have h5 := cross_ok S hb5 a0 gx gt gs gc b.loads.length (.slice none 0 0) uv [] of w ⟨by simp, hof⟩ rb reads_nil ro hxh hth hch hms
  exact h5.mono fun e w' ⟨v, h1, h2, h3, h4⟩ => ⟨v, h1, h2, h3, fun g hg => (h4 g hg).resolve_left (fun h => by cases h)⟩
def fewestA_c1 (b : DBook) (k1 : Nat) : (List (Int × Bool)) → Bool := fun v1_1 => decide ((k1 : Int) < (IntKind.i64.wrap ((allD b) + 1)))
def fewestA_b1 (b : DBook) (k1 : Nat) : (List (Int × Bool)) → Bd (List (Int × Bool)) ((List Int) × Int) := fun v1_1 => .go (v1_1 ++ [(((k1 : Int), (togetherD b (k1 : Int))) : Int × Bool)])
def fewestA_c2 (b : DBook) (u1_0 : List (Int × Bool)) (k2 : Nat) : Unit → Bool := fun _ => decide ((k2 : Int) < (b.loads.length : Int))
def fewestA_b2 (b : DBook) (u1_0 : List (Int × Bool)) (k2 : Nat) : Unit → Bd Unit ((List Int) × Int) := fun _ => (bif (crossD b u1_0 b.loads.length [] (List.replicate (IntKind.i64.wrap ((k2 : Int) + 1)).toNat 0)).2 then .ret ((crossD b u1_0 b.loads.length [] (List.replicate (IntKind.i64.wrap ((k2 : Int) + 1)).toNat 0)).1, 0) else .go ())
def fewestA (b : DBook) : (List Int) × Int :=
  (bif (checkD b) != 0 then ([], (checkD b)) else (match loopR (fewestA_c1 b) (fewestA_b1 b) (2 ^ b.loads.length) 0 ([] : List (Int × Bool)) with | .brk u1_0 => (match loopR (fewestA_c2 b u1_0) (fewestA_b2 b u1_0) b.loads.length 0 () with | .brk () => ([], 4) | .ret r => r) | .ret r => r))
theorem fewestA_calls (g0 : Value) (b : DBook) (w : World) (r0 : Reads w g0 3 b.loads encLoad zLoad) (hnb : NobodyAt w) (hla : LanesAt w) : Calls Tryd.prog 46 #[.agg #[g0, iv b.rule, iv b.most]] w fun e w' => ∃ v0, e = .returned (.tuple #[v0, iv (fewestA b).2]) ∧ Below w.heap.size w w' ∧ Reads w' v0 1 (fewestA b).1 encI 0 ∧ (∀ g, vblk v0 = some g → w.heap.size ≤ g ∧ g < w'.heap.size) := by
  refine calls_of_WP (cx := cx0 w (vn [g0]) 1) (n := vn [g0]) (vs := [.g [.ref 0, .int .i64 b.rule, .int .i64 b.most]]) (hp := [(0, .sl .ro 61 3 b.loads encLoad zLoad), (1, .pf NobodyAt (· = 1)), (2, .pf LanesAt (· = 0))]) (nx := 3) tt_ok Tryd.func46 rfl rfl rfl (by kernel_rfl) (HSat_args (vn_one (by simp [r0.one])) (by decide) ⟨⟨⟨fun _ => rfl, by decide, r0⟩, (Nat.le_of_ble_eq_true rfl)⟩, ⟨⟨hnb, fun w1 w2 h1 hw => (hw 1 rfl).trans h1, fun g hg => by cases hg; exact (Array.getElem?_eq_some_iff.1 hnb).1⟩, (Nat.le_of_ble_eq_true rfl)⟩, ⟨⟨hla, fun w1 w2 h1 hw => (hw 0 rfl).trans h1, fun g hg => by cases hg; exact (Array.getElem?_eq_some_iff.1 hla).1⟩, (Nat.le_of_ble_eq_true rfl)⟩, trivial⟩) (vsOk (by kernel_rfl)) ?_
  have hl0 := Reads.len r0
  refine WP_seq (WP_region (WPO_all tt_ok (by kernel_rfl) ?_))
  refine WP_seq (WP_seq (WP_region (WPO_run tt_ok 1 (by kernel_rfl) ?_)))
  refine CALL 66 [.g [.ref 0, .int .i64 b.rule, .int .i64 b.most]] (.s (.int .i64 (checkD b))) [] (by kernel_rfl) (goes_of (by kernel_rfl)) (by kernel_rfl) (by kernel_rfl) (fun _ nV w h => checkD_calls (nV 0) b w (h.reads (id := 0) (kd := .ro) (e := 61) (by kernel_rfl)) ) ?_
  refine WPO_all tt_ok (by kernel_rfl) ?_
  refine WP_seq (WP_region (WPO_all tt_ok (by kernel_rfl) ?_))
  refine WP_cond ((checkD b) != 0) (by kernel_rfl) (fun hc2 => ?_) (fun hc2 => ?_)
  · have hc2' := hc2; try simp only [Bool.and_eq_true, Bool.or_eq_true, Bool.and_eq_false_iff, Bool.or_eq_false_iff, Bool.not_eq_true', Bool.not_eq_false', decide_eq_true_eq, decide_eq_false_iff_not, beq_iff_eq, beq_eq_false_iff_ne, bne_iff_ne, bne_eq_false_iff_eq, ne_eq] at hc2'
    refine WP_seq (WP_region (WPO_all tt_ok (by kernel_rfl) ?_))
    refine WP_ret ?_
    exact ⟨.t [(false, [.v (.slice none 0 0)]), (false, [.int .i64 (checkD b)])], by kernel_rfl, fun nV w' h => ⟨.slice none 0 0, by rw [show fewestA b = ([], (checkD b)) from by unfold fewestA; simp only [hc2, cond_true, cond_false]]; rfl, h.bel, by rw [show fewestA b = ([], (checkD b)) from by unfold fewestA; simp only [hc2, cond_true, cond_false]]; exact reads_nil, fun g hg => by cases hg⟩⟩
  have hc2' := hc2; try simp only [Bool.and_eq_true, Bool.or_eq_true, Bool.and_eq_false_iff, Bool.or_eq_false_iff, Bool.not_eq_true', Bool.not_eq_false', decide_eq_true_eq, decide_eq_false_iff_not, beq_iff_eq, beq_eq_false_iff_ne, bne_iff_ne, bne_eq_false_iff_eq, ne_eq] at hc2'
  refine WP_skip ?_
  have hv : ValidD b := checkD_valid.1 (bne_eq_false_iff_eq.1 (by assumption))
  have hb5 := hv.n.2
  have hpw := all_wrap hb5
  have hpl := pow_le5 hb5
  refine WP_seq (WP_region (WPO_run tt_ok 1 (by kernel_rfl) ?_))
  refine CALLMAP 90 [.g [.ref 0, .int .i64 b.rule, .int .i64 b.most]] (plL b) plKey plVal (fun gM1 => .g [.ref 0, .int .i64 b.rule, .int .i64 b.most, .v (.map (some gM1))]) (by kernel_rfl) (goes_of (by kernel_rfl)) (fun _ => (by kernel_rfl)) (fun _ => (by kernel_rfl)) (fun _ n n' h => by simp only [AV.c, cellsV, part1, AC.c, List.map_cons, List.map_nil, h 0 (by show 0 < 4; decide)]) (fun nV w h => opened_plL (nV 0) b w (h.reads (id := 0) (kd := .ro) (e := 61) (by kernel_rfl)) (h.ents (1, .pf NobodyAt (· = 1)) (fnd_mem (by kernel_rfl))).1 (by first | assumption | omega)) (fun gM1 => ?_)
  refine WPO_all tt_ok (by kernel_rfl) ?_
  refine WP_seq (WP_region (MKMg (κ := (Int × Bool)) stKey stVal (some 19) (by kernel_rfl) (fun _ => (by kernel_rfl)) (fun gM2 => ?_)))
  refine WPO_all tt_ok (by kernel_rfl) ?_
  refine WP_seq (WP_seq (WP_region (WPO_run tt_ok 1 (by kernel_rfl) ?_)))
  refine CALL 96 [.g [.ref 0, .int .i64 b.rule, .int .i64 b.most, .v (.map (some gM1))]] (.s (.int .i64 (allD b))) [] (by kernel_rfl) (goes_of (by kernel_rfl)) (by kernel_rfl) (by kernel_rfl) (fun _ nV w h => allD_calls (nV 0) gM1 b w (h.reads (id := 0) (kd := .ro) (e := 61) (by kernel_rfl)) (h.ents (4, mapE gM1 (plL b) plKey plVal) (fnd_mem (by kernel_rfl))).1 (by first | assumption | omega)) ?_
  refine WPO_all tt_ok (by kernel_rfl) ?_
  refine WP_loopA (ρ := (List Int) × Int) (fewestA_c1 b) (fewestA_b1 b) (2 ^ b.loads.length) ([] : List (Int × Bool)) (fun k : Nat => (k : Int)) (fun (ci : Int) (zz : (List (Int × Bool))) => ⟨55, [(23, [], .s (.int .i64 ci)), (22, [], .s (.int .i64 (IntKind.i64.wrap ((allD b) + 1)))), (6, [], .s (.p 7 0)), (5, [], .s (.p 5 0)), (1, [], .s (.p 3 0))], [(7, .box 109 [.v (.map (some gM2))]), (6, mapE gM2 zz stKey stVal), (5, .box 94 [.ref 0, .int .i64 b.rule, .int .i64 b.most, .v (.map (some gM1))]), (4, mapE gM1 (plL b) plKey plVal), (3, .box 24 [.ref 0, .int .i64 b.rule, .int .i64 b.most]), (0, .sl .ro 61 3 b.loads encLoad zLoad), (1, .pf NobodyAt (· = 1)), (2, .pf LanesAt (· = 0))], 8, []⟩) (fun zz : (List (Int × Bool)) => ⟨55, [(6, [], .s (.p 7 0)), (1, [], .s (.p 3 0))], [(7, .box 109 [.v (.map (some gM2))]), (6, mapE gM2 zz stKey stVal), (5, .box 94 [.ref 0, .int .i64 b.rule, .int .i64 b.most, .v (.map (some gM1))]), (4, mapE gM1 (plL b) plKey plVal), (3, .box 24 [.ref 0, .int .i64 b.rule, .int .i64 b.most]), (0, .sl .ro 61 3 b.loads encLoad zLoad), (1, .pf NobodyAt (· = 1)), (2, .pf LanesAt (· = 0))], 8, []⟩) (fun (k1 : Nat) (zz : (List (Int × Bool))) => ∀ x ∈ zz, x.1 < (k1 : Int)) (fun x hx => by cases hx) ⟨0, rfl, Le_sel (ts := [23, 22, 6, 5, 1]) (ids := [7, 6, 5, 4, 3, 0, 1, 2]) (nx := 8) (by kernel_rfl)⟩ ?_ ?_
  · intro k1 v1_1 hn1 hp1 hi1 Q1 hq1 ho1
    replace hp1 : ∀ x ∈ v1_1, x.1 < (k1 : Int) := hp1
    refine WP_seq (WP_region (WPO_all tt_ok (by kernel_rfl) ?_))
    refine WP_seq (WP_cond (decide ((k1 : Int) < (IntKind.i64.wrap ((allD b) + 1)))) (by kernel_rfl) (fun hc3 => ?_) (fun hc3 => ?_))
    rotate_left
    · refine WP_exit ?_
      show Q1 (.exit 0) _
      exact LA_exit hq1 v1_1 (loopR_end hi1 hc3) ⟨k1, hn1, hp1⟩ (Le_sel (ts := [6, 1]) (ids := [7, 6, 5, 4, 3, 0, 1, 2]) (nx := 8) (by kernel_rfl))
    have hc3' := of_decide_eq_true hc3
    have hk1 : k1 < 2 ^ b.loads.length := by rw [hpw] at hc3'; omega
    refine WP_skip ?_
    refine WP_seq (WP_block ?_)
    refine WP_seq (WP_region (WPO_all tt_ok (by kernel_rfl) ?_))
    refine WP_drawH [6] (by kernel_rfl) (by kernel_rfl) ?_
    refine H_run tt_ok [0, 1, 2, 3] (f' := 2) (by kernel_rfl) (by kernel_rfl) (by kernel_rfl) ?_
    refine H_step 4 (by kernel_rfl) (by kernel_rfl) (fun hfz cx' hx1 hx2 => ?_)
    refine CALL 97 [.g [.ref 0, .int .i64 b.rule, .int .i64 b.most, .v (.map (some gM1))], .s (.int .i64 (k1 : Int))] (.s (.bool (togetherD b (k1 : Int)))) [] (by kernel_rfl) (goes_of (by kernel_rfl)) (by kernel_rfl) (by kernel_rfl) (fun _ nV w h => togetherD_calls (nV 0) gM1 b (k1 : Int) w (h.reads (id := 0) (kd := .ro) (e := 61) (by kernel_rfl)) (h.ents (4, mapE gM1 (plL b) plKey plVal) (fnd_mem (by kernel_rfl))).1 (h.ents (2, .pf LanesAt (· = 0)) (fnd_mem (by kernel_rfl))).1 (by first | assumption | omega) (by first | assumption | omega)) ?_
    refine WPO_end (by kernel_rfl) ⟨rfl, (hfz.fnds [7, 5, 4, 3, 0, 1, 2] (by kernel_rfl) ⟨by kernel_rfl, by kernel_rfl, by kernel_rfl, by kernel_rfl, by kernel_rfl, by kernel_rfl, by kernel_rfl, trivial⟩ (by kernel_rfl)), ?_⟩
    refine H_step 5 (by kernel_rfl) (by kernel_rfl) (fun hfz cx' hx1 hx2 => ?_)
    refine MUPg tt_ok v1_1 stKey stVal (((k1 : Int), (togetherD b (k1 : Int))) : Int × Bool) 6 gM2 3 (.s (.int .i64 (k1 : Int))) (.s (.bool (togetherD b (k1 : Int)))) (by kernel_rfl) (by kernel_rfl) (fun _ => ⟨rfl, rfl⟩) (fun w => check_int (by kernel_rfl) _ w false) (fun w => find_int_none (by kernel_rfl) _ stK stKey stVal (fun _ => rfl) w _ (fun x hx h => by have h0 := hp1 x hx; simp only [stK] at h; omega)) ?_
    refine WPO_end (by kernel_rfl) ⟨rfl, (hfz.fnds [7, 5, 4, 3, 0, 1, 2] (by kernel_rfl) ⟨by kernel_rfl, by kernel_rfl, by kernel_rfl, by kernel_rfl, by kernel_rfl, by kernel_rfl, by kernel_rfl, trivial⟩ (by kernel_rfl)), ?_⟩
    refine H_done (by kernel_rfl) ?_
    refine WP_region (WPO_all tt_ok (by kernel_rfl) ?_)
    show Q1 .normal _
    exact LA_go hq1 (ci := IntKind.i64.wrap ((k1 : Int) + 1)) (v1_1 ++ [(((k1 : Int), (togetherD b (k1 : Int))) : Int × Bool)]) hk1 (by show _ = ((k1 + 1 : Nat) : Int); rw [wrapI (by omega) (by omega)]; omega) (loopR_go hi1 hk1 hc3 (rfl)) (fun x hx => (List.mem_append.1 hx).elim (fun h => by have := hp1 x h; omega) (fun h => by rw [List.mem_singleton.1 h]; show (k1 : Int) < ((k1 + 1 : Nat) : Int); omega)) (Le_sel (ts := [23, 22, 6, 5, 1]) (ids := [7, 6, 5, 4, 3, 0, 1, 2]) (nx := 8) (by kernel_rfl))
  intro u1_0 hR1 hP1 s' hl
  obtain ⟨kP1, hkP1, hpP1⟩ := hP1
  replace hpP1 : ∀ x ∈ u1_0, x.1 < (kP1 : Int) := hpP1
  refine WP_le hl ?_
  clear hl s'
  refine WP_seq (WP_region (WPO_all tt_ok (by kernel_rfl) ?_))
  refine WP_seq (WP_region (WPO_all tt_ok (by kernel_rfl) ?_))
  refine WP_seq (WP_seq (WP_region (WPO_all tt_ok (by kernel_rfl) ?_)))
  refine WP_loopA (ρ := (List Int) × Int) (fewestA_c2 b u1_0) (fewestA_b2 b u1_0) b.loads.length () (fun k : Nat => (k : Int)) (fun (ci : Int) (zz : Unit) => ⟨55, [(36, [], .s (.int .i64 ci)), (35, [], .s (.int .i64 (b.loads.length : Int))), (8, [], .s (.p 8 0))], [(9, .clo 98 [] [.s (.p 3 0), .s (.p 7 0), .s (.p 8 0)]), (8, .box 112 [.ref 9]), (7, .box 109 [.v (.map (some gM2))]), (6, mapE gM2 u1_0 stKey stVal), (5, .box 94 [.ref 0, .int .i64 b.rule, .int .i64 b.most, .v (.map (some gM1))]), (4, mapE gM1 (plL b) plKey plVal), (3, .box 24 [.ref 0, .int .i64 b.rule, .int .i64 b.most]), (0, .sl .ro 61 3 b.loads encLoad zLoad), (1, .pf NobodyAt (· = 1)), (2, .pf LanesAt (· = 0))], 10, []⟩) (fun zz : Unit => ⟨55, [], [(9, .clo 98 [] [.s (.p 3 0), .s (.p 7 0), .s (.p 8 0)]), (8, .box 112 [.ref 9]), (7, .box 109 [.v (.map (some gM2))]), (6, mapE gM2 u1_0 stKey stVal), (5, .box 94 [.ref 0, .int .i64 b.rule, .int .i64 b.most, .v (.map (some gM1))]), (4, mapE gM1 (plL b) plKey plVal), (3, .box 24 [.ref 0, .int .i64 b.rule, .int .i64 b.most]), (0, .sl .ro 61 3 b.loads encLoad zLoad), (1, .pf NobodyAt (· = 1)), (2, .pf LanesAt (· = 0))], 10, []⟩) (fun k zz => True) trivial ⟨0, rfl, Le_sel (ts := [36, 35, 8]) (ids := [9, 8, 7, 6, 5, 4, 3, 0, 1, 2]) (nx := 10) (by kernel_rfl)⟩ ?_ ?_
  · intro k2 zz hn2 hp2 hi2 Q2 hq2 ho2
    refine WP_seq (WP_region (WPO_all tt_ok (by kernel_rfl) ?_))
    refine WP_seq (WP_cond (decide ((k2 : Int) < (b.loads.length : Int))) (by kernel_rfl) (fun hc4 => ?_) (fun hc4 => ?_))
    rotate_left
    · refine WP_exit ?_
      show Q2 (.exit 2) _
      exact LA_exit hq2 () (loopR_end hi2 hc4) ⟨k2, hn2, hp2⟩ (Le_sel (ts := []) (ids := [9, 8, 7, 6, 5, 4, 3, 0, 1, 2]) (nx := 10) (by kernel_rfl))
    have hc4' := of_decide_eq_true hc4
    have hk2 : k2 < b.loads.length := by omega
    refine WP_skip ?_
    refine WP_seq (WP_block ?_)
    refine WP_seq (WP_region (WPO_all tt_ok (by kernel_rfl) ?_))
    refine WP_seq (WP_drawH [] (by kernel_rfl) (by kernel_rfl) ?_)
    refine H_run tt_ok [0, 1, 2] (f' := 7) (by kernel_rfl) (by kernel_rfl) (by kernel_rfl) ?_
    refine H_step 3 (by kernel_rfl) (by kernel_rfl) (fun hfz cx' hx1 hx2 => ?_)
    refine MKS tt_ok 33 3 (IntKind.i64.wrap ((k2 : Int) + 1)) (some 43) encI 0 (.int .i64 0) (by kernel_rfl) (by kernel_rfl) rfl (fun _ => rfl) (by kernel_rfl) (by rw [wrapI (by omega) (by omega)]; omega) (by kernel_rfl) ?_
    refine WPO_end (by kernel_rfl) ⟨rfl, (hfz.fnds [9, 8, 7, 6, 5, 4, 3, 0, 1, 2] (by kernel_rfl) ⟨by kernel_rfl, by kernel_rfl, by kernel_rfl, by kernel_rfl, by kernel_rfl, by kernel_rfl, by kernel_rfl, by kernel_rfl, by kernel_rfl, by kernel_rfl, trivial⟩ (by kernel_rfl)), ?_⟩
    refine H_step 4 (by kernel_rfl) (by kernel_rfl) (fun hfz cx' hx1 hx2 => ?_)
    refine CALLSL 98 [.s (.v (.slice none 0 0)), .s (.ref 10), .s (.p 3 0), .s (.p 7 0), .s (.p 8 0)] (fun sv5 => .t [(false, [.v sv5]), (false, [.bool (crossD b u1_0 b.loads.length [] (List.replicate (IntKind.i64.wrap ((k2 : Int) + 1)).toNat 0)).2])]) 1 (crossD b u1_0 b.loads.length [] (List.replicate (IntKind.i64.wrap ((k2 : Int) + 1)).toNat 0)).1 encI 0 (by decide) (by kernel_rfl) (goes_of (by kernel_rfl)) (fun _ => (by kernel_rfl)) (fun _ => (by kernel_rfl)) (fun _ _ _ => rfl) (fun nV w h => by
      obtain ⟨gx, hx1, _, hx2⟩ := h.ents (3, .box 24 [.ref 0, .int .i64 b.rule, .int .i64 b.most]) (fnd_mem (by kernel_rfl))
      obtain ⟨gt, ht1, _, ht2⟩ := h.ents (7, .box 109 [.v (.map (some gM2))]) (fnd_mem (by kernel_rfl))
      obtain ⟨gc, hc1, _, hc2⟩ := h.ents (8, .box 112 [.ref 9]) (fnd_mem (by kernel_rfl))
      exact cross_top u1_0 hb5 (nV 0) (nV 10) (nV 3) (nV 7) (nV 8) (nV 9) gx gt gM2 gc (List.replicate (IntKind.i64.wrap ((k2 : Int) + 1)).toNat 0) w (by rw [List.length_replicate, wrapI (by omega) (by omega)]; omega) (h.reads (id := 0) (kd := .ro) (e := 61) (by kernel_rfl)) (h.reads (id := 10) (kd := .own) (e := 3) (by kernel_rfl)) (h.ents (6, mapE gM2 u1_0 stKey stVal) (fnd_mem (by kernel_rfl))).1 hx1 ht1 hc1 hx2 ht2 (h.ents (9, .clo 98 [] [.s (.p 3 0), .s (.p 7 0), .s (.p 8 0)]) (fnd_mem (by kernel_rfl))) hc2) (fun sv5 => ?_)
    refine WPO_end (by kernel_rfl) ⟨rfl, (hfz.fnds [9, 8, 7, 6, 5, 4, 3, 0, 1, 2] (by kernel_rfl) ⟨by kernel_rfl, by kernel_rfl, by kernel_rfl, by kernel_rfl, by kernel_rfl, by kernel_rfl, by kernel_rfl, by kernel_rfl, by kernel_rfl, by kernel_rfl, trivial⟩ (by kernel_rfl)), ?_⟩
    refine H_run tt_ok [5, 6, 7, 8, 9] (f' := 0) (by kernel_rfl) (by kernel_rfl) (by kernel_rfl) ?_
    refine H_done (by kernel_rfl) ?_
    refine WP_seq (WP_region (WPO_all tt_ok (by kernel_rfl) ?_))
    refine WP_cond ((crossD b u1_0 b.loads.length [] (List.replicate (IntKind.i64.wrap ((k2 : Int) + 1)).toNat 0)).2) (by kernel_rfl) (fun hc6 => ?_) (fun hc6 => ?_)
    · refine WP_seq (WP_region (WPO_run tt_ok 2 (by kernel_rfl) ?_))
      refine SLEN tt_ok (.s (.v sv5)) [] (crossD b u1_0 b.loads.length [] (List.replicate (IntKind.i64.wrap ((k2 : Int) + 1)).toNat 0)).1.length (by kernel_rfl) (fun _ n w h => by obtain ⟨A, c, hv, _⟩ := (h.ents (11, slE sv5 1 (crossD b u1_0 b.loads.length [] (List.replicate (IntKind.i64.wrap ((k2 : Int) + 1)).toNat 0)).1 encI 0) (fnd_mem (by kernel_rfl))).1; exact ⟨A, c, hv⟩) (by kernel_rfl) ?_
      refine WPO_run tt_ok 1 (by kernel_rfl) ?_
      refine SLEN tt_ok (.s (.v sv5)) [] (crossD b u1_0 b.loads.length [] (List.replicate (IntKind.i64.wrap ((k2 : Int) + 1)).toNat 0)).1.length (by kernel_rfl) (fun _ n w h => by obtain ⟨A, c, hv, _⟩ := (h.ents (11, slE sv5 1 (crossD b u1_0 b.loads.length [] (List.replicate (IntKind.i64.wrap ((k2 : Int) + 1)).toNat 0)).1 encI 0) (fnd_mem (by kernel_rfl))).1; exact ⟨A, c, hv⟩) (by kernel_rfl) ?_
      refine SLVF tt_ok 11 sv5 3 1 (crossD b u1_0 b.loads.length [] (List.replicate (IntKind.i64.wrap ((k2 : Int) + 1)).toNat 0)).1 encI 0 (some 53) (by kernel_rfl) (by kernel_rfl) (fun _ => (by kernel_rfl)) (fun sv6 => ?_)
      refine WPO_all tt_ok (by kernel_rfl) ?_
      refine WP_ret ?_
      show Q2 .ret _
      refine LA_ret hq2 ?_
      have he7 := loopR_ret (r := ((crossD b u1_0 b.loads.length [] (List.replicate (IntKind.i64.wrap ((k2 : Int) + 1)).toNat 0)).1, 0)) hi2 hk2 hc4 (by unfold fewestA_b2; simp only [hc6, cond_true, cond_false])
      exact ⟨.t [(false, [.v sv6]), (false, [.int .i64 0])], by kernel_rfl, fun nV w' h => ⟨sv6, by rw [show fewestA b = ((crossD b u1_0 b.loads.length [] (List.replicate (IntKind.i64.wrap ((k2 : Int) + 1)).toNat 0)).1, 0) from by unfold fewestA; simp only [hc2, hR1, he7, cond_true, cond_false]]; rfl, h.bel, by rw [show fewestA b = ((crossD b u1_0 b.loads.length [] (List.replicate (IntKind.i64.wrap ((k2 : Int) + 1)).toNat 0)).1, 0) from by unfold fewestA; simp only [hc2, hR1, he7, cond_true, cond_false]]; exact (slE_lt (id := 12) (v := sv6) (sz := 1) (li := (crossD b u1_0 b.loads.length [] (List.replicate (IntKind.i64.wrap ((k2 : Int) + 1)).toNat 0)).1) (enc := encI) (z := 0) h (by kernel_rfl)).1, (slE_lt (id := 12) (v := sv6) (sz := 1) (li := (crossD b u1_0 b.loads.length [] (List.replicate (IntKind.i64.wrap ((k2 : Int) + 1)).toNat 0)).1) (enc := encI) (z := 0) h (by kernel_rfl)).2⟩⟩
    refine WP_skip ?_
    refine WP_region (WPO_all tt_ok (by kernel_rfl) ?_)
    show Q2 .normal _
    exact LA_go hq2 (ci := IntKind.i64.wrap ((k2 : Int) + 1)) () hk2 (by show _ = ((k2 + 1 : Nat) : Int); rw [wrapI (by omega) (by omega)]; omega) (loopR_go hi2 hk2 hc4 (by unfold fewestA_b2; simp only [hc6, cond_true, cond_false])) trivial (Le_sel (ts := [36, 35, 8]) (ids := [9, 8, 7, 6, 5, 4, 3, 0, 1, 2]) (nx := 10) (by kernel_rfl))
  intro zz hR2 hP2 s' hl
  refine WP_le hl ?_
  clear hl s'
  refine WP_seq (WP_region (WPO_all tt_ok (by kernel_rfl) ?_))
  refine WP_ret ?_
  exact ⟨.t [(false, [.v (.slice none 0 0)]), (false, [.int .i64 4])], by kernel_rfl, fun nV w' h => ⟨.slice none 0 0, by rw [show fewestA b = ([], 4) from by unfold fewestA; simp only [hc2, hR1, hR2, cond_true, cond_false]]; rfl, h.bel, by rw [show fewestA b = ([], 4) from by unfold fewestA; simp only [hc2, hR1, hR2, cond_true, cond_false]]; exact reads_nil, fun g hg => by cases hg⟩⟩
end Go.Proofs.YthfnedbpmdkdjaaDoor.D
namespace Go.Proofs.YthfnedbpmdkdjaaDoor.D
open Go Go.RowKit Go.Proofs.YthfnedbpmdkdjaaDoor.Eng Go.Proofs.YthfnedbpmdkdjaaDoor.Cm
set_option linter.unusedVariables false
set_option linter.unusedSimpArgs false
set_option linter.unusedSectionVars false
def weighA_c2 (b : DBook) (k1 : Nat) (v1_1 : Int) (v1_2 : Int) (k2 : Nat) : Int → Bool := fun v2_1 => decide ((k2 : Int) < (IntKind.i64.wrap ((IntKind.i64.wrap ((b.loads.getD k1 zLoad).w.hi - (b.loads.getD k1 zLoad).w.lo)) + 1)))
def weighA_b2 (b : DBook) (k1 : Nat) (v1_1 : Int) (v1_2 : Int) (k2 : Nat) : Int → Bd Int (Int × Int) := fun v2_1 => .go (mn v2_1 ((mostD (⟨(cloneL b.loads).set k1 (⟨(⟨IntKind.i64.wrap ((b.loads.getD k1 zLoad).w.lo + (k2 : Int)), IntKind.i64.wrap ((b.loads.getD k1 zLoad).w.lo + (k2 : Int))⟩ : Span), ((cloneL b.loads).getD k1 zLoad).lanes⟩ : Load), b.rule, b.most⟩ : DBook)).length : Int))
def weighA_c1 (b : DBook) (k1 : Nat) : (Int × Int) → Bool := fun (v1_1, v1_2) => decide ((k1 : Int) < (b.loads.length : Int))
def weighA_b1 (b : DBook) (k1 : Nat) : (Int × Int) → Bd (Int × Int) (Int × Int) := fun (v1_1, v1_2) => (bif (IntKind.i64.wrap ((b.loads.getD k1 zLoad).w.hi - (b.loads.getD k1 zLoad).w.lo)) == 0 then .go (v1_1, v1_2) else (match loopR (weighA_c2 b k1 v1_1 v1_2) (weighA_b2 b k1 v1_1 v1_2) ((IntKind.i64.wrap ((IntKind.i64.wrap ((b.loads.getD k1 zLoad).w.hi - (b.loads.getD k1 zLoad).w.lo)) + 1)) : Int).toNat 0 (b.loads.length : Int) with | .brk u2_0 => .go (bif (decide ((greatestD u2_0 ([v1_1])) > v1_1)) then u2_0 else v1_1, bif (decide ((greatestD u2_0 ([v1_1])) > v1_1)) then (k1 : Int) else v1_2) | .ret r => .ret r))
def weighA (b : DBook) : Int × Int :=
  (bif (checkD b) != 0 then (0, (checkD b)) else (match loopR (weighA_c1 b) (weighA_b1 b) b.loads.length 0 (-1, -1) with | .brk (u1_0, u1_1) => (bif decide (u1_1 < 0) then (0, 4) else (u1_1, 0)) | .ret r => r))
set_option maxHeartbeats 1000000 in
theorem weighA_calls (g0 : Value) (b : DBook) (w : World) (r0 : Reads w g0 3 b.loads encLoad zLoad) (hnb : NobodyAt w) (hla : LanesAt w) : Calls Tryd.prog 48 #[.agg #[g0, iv b.rule, iv b.most]] w fun e w' => e = .returned (.tuple #[iv (weighA b).1, iv (weighA b).2]) ∧ Below w.heap.size w w' := by
  refine calls_of_WP (cx := cx0 w (vn [g0]) 1) (n := vn [g0]) (vs := [.g [.ref 0, .int .i64 b.rule, .int .i64 b.most]]) (hp := [(0, .sl .ro 61 3 b.loads encLoad zLoad), (1, .pf NobodyAt (· = 1)), (2, .pf LanesAt (· = 0))]) (nx := 3) tt_ok Tryd.func48 rfl rfl rfl (by kernel_rfl) (HSat_args (vn_one (by simp [r0.one])) (by decide) ⟨⟨⟨fun _ => rfl, by decide, r0⟩, (Nat.le_of_ble_eq_true rfl)⟩, ⟨⟨hnb, fun w1 w2 h1 hw => (hw 1 rfl).trans h1, fun g hg => by cases hg; exact (Array.getElem?_eq_some_iff.1 hnb).1⟩, (Nat.le_of_ble_eq_true rfl)⟩, ⟨⟨hla, fun w1 w2 h1 hw => (hw 0 rfl).trans h1, fun g hg => by cases hg; exact (Array.getElem?_eq_some_iff.1 hla).1⟩, (Nat.le_of_ble_eq_true rfl)⟩, trivial⟩) (vsOk (by kernel_rfl)) ?_
  have hl0 := Reads.len r0
  refine WP_seq (WP_region (WPO_all tt_ok (by kernel_rfl) ?_))
  refine WP_seq (WP_seq (WP_region (WPO_run tt_ok 1 (by kernel_rfl) ?_)))
  refine CALL 66 [.g [.ref 0, .int .i64 b.rule, .int .i64 b.most]] (.s (.int .i64 (checkD b))) [] (by kernel_rfl) (goes_of (by kernel_rfl)) (by kernel_rfl) (by kernel_rfl) (fun _ nV w h => checkD_calls (nV 0) b w (h.reads (id := 0) (kd := .ro) (e := 61) (by kernel_rfl)) ) ?_
  refine WPO_all tt_ok (by kernel_rfl) ?_
  refine WP_seq (WP_region (WPO_all tt_ok (by kernel_rfl) ?_))
  refine WP_cond ((checkD b) != 0) (by kernel_rfl) (fun hc2 => ?_) (fun hc2 => ?_)
  · have hc2' := hc2; try simp only [Bool.and_eq_true, Bool.or_eq_true, Bool.and_eq_false_iff, Bool.or_eq_false_iff, Bool.not_eq_true', Bool.not_eq_false', decide_eq_true_eq, decide_eq_false_iff_not, beq_iff_eq, beq_eq_false_iff_ne, bne_iff_ne, bne_eq_false_iff_eq, ne_eq] at hc2'
    refine WP_seq (WP_region (WPO_all tt_ok (by kernel_rfl) ?_))
    refine WP_ret ?_
    exact ⟨.t [(false, [.int .i64 0]), (false, [.int .i64 (checkD b)])], by kernel_rfl, fun nV w' h => ⟨by rw [show weighA b = (0, (checkD b)) from by unfold weighA; simp only [hc2, cond_true, cond_false]]; rfl, h.bel⟩⟩
  have hc2' := hc2; try simp only [Bool.and_eq_true, Bool.or_eq_true, Bool.and_eq_false_iff, Bool.or_eq_false_iff, Bool.not_eq_true', Bool.not_eq_false', decide_eq_true_eq, decide_eq_false_iff_not, beq_iff_eq, beq_eq_false_iff_ne, bne_iff_ne, bne_eq_false_iff_eq, ne_eq] at hc2'
  refine WP_skip ?_
  have hv : ValidD b := checkD_valid.1 (bne_eq_false_iff_eq.1 (by assumption))
  have hb5 := hv.n.2
  have hcl : (cloneL b.loads).length = b.loads.length := rfl
  refine WP_seq (WP_region (WPO_all tt_ok (by kernel_rfl) ?_))
  refine WP_seq (WP_seq (WP_region (WPO_all tt_ok (by kernel_rfl) ?_)))
  refine WP_loopA (ρ := Int × Int) (weighA_c1 b) (weighA_b1 b) b.loads.length (-1, -1) (fun k : Nat => (k : Int)) (fun (ci : Int) (zz : Int × Int) => ⟨83, [(21, [], .s (.int .i64 ci)), (20, [], .s (.int .i64 (b.loads.length : Int))), (19, [], .s (.ref 0)), (6, [], .s (.int .i64 zz.1)), (5, [], .s (.int .i64 zz.2)), (1, [], .s (.p 3 0))], [(3, .box 24 [.ref 0, .int .i64 b.rule, .int .i64 b.most]), (0, .sl .ro 61 3 b.loads encLoad zLoad), (1, .pf NobodyAt (· = 1)), (2, .pf LanesAt (· = 0))], 4, []⟩) (fun zz : Int × Int => ⟨83, [(5, [], .s (.int .i64 zz.2))], [(3, .box 24 [.ref 0, .int .i64 b.rule, .int .i64 b.most]), (0, .sl .ro 61 3 b.loads encLoad zLoad), (1, .pf NobodyAt (· = 1)), (2, .pf LanesAt (· = 0))], 4, []⟩) (fun k zz => True) trivial ⟨0, rfl, Le_sel (ts := [21, 20, 19, 6, 5, 1]) (ids := [3, 0, 1, 2]) (nx := 4) (by kernel_rfl)⟩ ?_ ?_
  · intro k1 zz hn1 hp1 hi1 Q1 hq1 ho1
    obtain ⟨v1_1, v1_2⟩ := zz
    refine WP_seq (WP_region (WPO_all tt_ok (by kernel_rfl) ?_))
    refine WP_seq (WP_cond (decide ((k1 : Int) < (b.loads.length : Int))) (by kernel_rfl) (fun hc3 => ?_) (fun hc3 => ?_))
    rotate_left
    · refine WP_exit ?_
      show Q1 (.exit 0) _
      exact LA_exit hq1 (v1_1, v1_2) (loopR_end hi1 hc3) ⟨k1, hn1, hp1⟩ (Le_sel (ts := [5]) (ids := [3, 0, 1, 2]) (nx := 4) (by kernel_rfl))
    have hc3' := of_decide_eq_true hc3
    have hk1 : k1 < b.loads.length := by omega
    have hld := (hv.load hk1).1
    have hw1 : IntKind.i64.wrap ((b.loads.getD k1 zLoad).w.hi - (b.loads.getD k1 zLoad).w.lo) = (b.loads.getD k1 zLoad).w.hi - (b.loads.getD k1 zLoad).w.lo := wrapI (by omega) (by omega)
    have hw2 : IntKind.i64.wrap (IntKind.i64.wrap ((b.loads.getD k1 zLoad).w.hi - (b.loads.getD k1 zLoad).w.lo) + 1) = (b.loads.getD k1 zLoad).w.hi - (b.loads.getD k1 zLoad).w.lo + 1 := by rw [hw1, wrapI (by omega) (by omega)]
    refine WP_skip ?_
    refine WP_seq (WP_block ?_)
    refine WP_seq (WP_region (WPO_run tt_ok 1 (by kernel_rfl) ?_))
    refine IX tt_ok (k1 : Int) b.loads.length [] (by kernel_rfl) (fun hG => ⟨by omega, by omega⟩) ?_
    refine WPO_all tt_ok (by kernel_rfl) ?_
    refine WP_seq (WP_region (WPO_all tt_ok (by kernel_rfl) ?_))
    refine WP_seq (WP_seq (WP_region (WPO_all tt_ok (by kernel_rfl) ?_)))
    refine WP_cond ((IntKind.i64.wrap ((b.loads.getD k1 zLoad).w.hi - (b.loads.getD k1 zLoad).w.lo)) == 0) (by kernel_rfl) (fun hc5 => ?_) (fun hc5 => ?_)
    · have hc5' := hc5; try simp only [Bool.and_eq_true, Bool.or_eq_true, Bool.and_eq_false_iff, Bool.or_eq_false_iff, Bool.not_eq_true', Bool.not_eq_false', decide_eq_true_eq, decide_eq_false_iff_not, beq_iff_eq, beq_eq_false_iff_ne, bne_iff_ne, bne_eq_false_iff_eq, ne_eq] at hc5'
      refine WP_exit ?_
      refine WP_region (WPO_all tt_ok (by kernel_rfl) ?_)
      show Q1 .normal _
      exact LA_go hq1 (ci := IntKind.i64.wrap ((k1 : Int) + 1)) (v1_1, v1_2) hk1 (by show _ = ((k1 + 1 : Nat) : Int); rw [wrapI (by omega) (by omega)]; omega) (loopR_go hi1 hk1 hc3 (by unfold weighA_b1; simp only [hc5, cond_true, cond_false])) trivial (Le_sel (ts := [21, 20, 19, 6, 5, 1]) (ids := [3, 0, 1, 2]) (nx := 4) (by kernel_rfl))
    have hc5' := hc5; try simp only [Bool.and_eq_true, Bool.or_eq_true, Bool.and_eq_false_iff, Bool.or_eq_false_iff, Bool.not_eq_true', Bool.not_eq_false', decide_eq_true_eq, decide_eq_false_iff_not, beq_iff_eq, beq_eq_false_iff_ne, bne_iff_ne, bne_eq_false_iff_eq, ne_eq] at hc5'
    refine WP_skip ?_
    refine WP_seq (WP_region (WPO_all tt_ok (by kernel_rfl) ?_))
    refine WP_seq (WP_seq (WP_region (WPO_all tt_ok (by kernel_rfl) ?_)))
    refine WP_loopA (ρ := Int × Int) (weighA_c2 b k1 v1_1 v1_2) (weighA_b2 b k1 v1_1 v1_2) ((IntKind.i64.wrap ((IntKind.i64.wrap ((b.loads.getD k1 zLoad).w.hi - (b.loads.getD k1 zLoad).w.lo)) + 1)) : Int).toNat (b.loads.length : Int) (fun k : Nat => (k : Int)) (fun (ci : Int) (zz : Int) => ⟨83, [(40, [], .s (.int .i64 ci)), (39, [], .s (.int .i64 (IntKind.i64.wrap ((IntKind.i64.wrap ((b.loads.getD k1 zLoad).w.hi - (b.loads.getD k1 zLoad).w.lo)) + 1)))), (10, [], .s (.int .i64 zz)), (7, [], .s (.int .i64 (k1 : Int))), (8, [], .s (.p 4 0)), (21, [], .s (.int .i64 (k1 : Int))), (20, [], .s (.int .i64 (b.loads.length : Int))), (19, [], .s (.ref 0)), (6, [], .s (.int .i64 v1_1)), (5, [], .s (.int .i64 v1_2)), (1, [], .s (.p 3 0))], [(4, .box 61 [.int .i64 (b.loads.getD k1 zLoad).w.lo, .int .i64 (b.loads.getD k1 zLoad).w.hi, .int .i64 (b.loads.getD k1 zLoad).lanes]), (3, .box 24 [.ref 0, .int .i64 b.rule, .int .i64 b.most]), (0, .sl .ro 61 3 b.loads encLoad zLoad), (1, .pf NobodyAt (· = 1)), (2, .pf LanesAt (· = 0))], 5, []⟩) (fun zz : Int => ⟨83, [(10, [], .s (.int .i64 zz)), (7, [], .s (.int .i64 (k1 : Int))), (21, [], .s (.int .i64 (k1 : Int))), (20, [], .s (.int .i64 (b.loads.length : Int))), (19, [], .s (.ref 0)), (6, [], .s (.int .i64 v1_1)), (5, [], .s (.int .i64 v1_2)), (1, [], .s (.p 3 0))], [(4, .box 61 [.int .i64 (b.loads.getD k1 zLoad).w.lo, .int .i64 (b.loads.getD k1 zLoad).w.hi, .int .i64 (b.loads.getD k1 zLoad).lanes]), (3, .box 24 [.ref 0, .int .i64 b.rule, .int .i64 b.most]), (0, .sl .ro 61 3 b.loads encLoad zLoad), (1, .pf NobodyAt (· = 1)), (2, .pf LanesAt (· = 0))], 5, []⟩) (fun k zz => True) trivial ⟨0, rfl, Le_sel (ts := [40, 39, 10, 7, 8, 21, 20, 19, 6, 5, 1]) (ids := [4, 3, 0, 1, 2]) (nx := 5) (by kernel_rfl)⟩ ?_ ?_
    · intro k2 v2_1 hn2 hp2 hi2 Q2 hq2 ho2
      refine WP_seq (WP_region (WPO_all tt_ok (by kernel_rfl) ?_))
      refine WP_seq (WP_cond (decide ((k2 : Int) < (IntKind.i64.wrap ((IntKind.i64.wrap ((b.loads.getD k1 zLoad).w.hi - (b.loads.getD k1 zLoad).w.lo)) + 1)))) (by kernel_rfl) (fun hc6 => ?_) (fun hc6 => ?_))
      rotate_left
      · refine WP_exit ?_
        show Q2 (.exit 2) _
        exact LA_exit hq2 v2_1 (loopR_end hi2 hc6) ⟨k2, hn2, hp2⟩ (Le_sel (ts := [10, 7, 21, 20, 19, 6, 5, 1]) (ids := [4, 3, 0, 1, 2]) (nx := 5) (by kernel_rfl))
      have hc6' := of_decide_eq_true hc6
      have hk2 : k2 < ((IntKind.i64.wrap ((IntKind.i64.wrap ((b.loads.getD k1 zLoad).w.hi - (b.loads.getD k1 zLoad).w.lo)) + 1)) : Int).toNat := by omega
      refine WP_skip ?_
      refine WP_seq (WP_block ?_)
      refine WP_seq (WP_region (WPO_all tt_ok (by kernel_rfl) ?_))
      refine WP_le (s' := ⟨83, [(11, [], .s (.int .i64 (k2 : Int))), (40, [], .s (.int .i64 (k2 : Int))), (39, [], .s (.int .i64 (IntKind.i64.wrap ((IntKind.i64.wrap ((b.loads.getD k1 zLoad).w.hi - (b.loads.getD k1 zLoad).w.lo)) + 1)))), (10, [], .s (.int .i64 v2_1)), (7, [], .s (.int .i64 (k1 : Int))), (8, [], .s (.p 4 0)), (21, [], .s (.int .i64 (k1 : Int))), (20, [], .s (.int .i64 (b.loads.length : Int))), (19, [], .s (.ref 0)), (6, [], .s (.int .i64 v1_1)), (5, [], .s (.int .i64 v1_2)), (1, [], .s (.p 3 0))], [(4, .box 61 [.int .i64 (b.loads.getD k1 zLoad).w.lo, .int .i64 (b.loads.getD k1 zLoad).w.hi, .int .i64 (b.loads.getD k1 zLoad).lanes]), (3, .box 24 [.ref 0, .int .i64 b.rule, .int .i64 b.most]), (0, .sl .ro 61 3 b.loads encLoad zLoad), (1, .pf NobodyAt (· = 1)), (2, .pf LanesAt (· = 0))], 5, []⟩) (Le_sel (ts := [11, 40, 39, 10, 7, 8, 21, 20, 19, 6, 5, 1]) (ids := [4, 3, 0, 1, 2]) (nx := 5) (by kernel_rfl)) ?_
      refine WP_seq (WP_region (WPO_all tt_ok (by kernel_rfl) ?_))
      refine WP_seq (WP_region (WPO_run tt_ok 2 (by kernel_rfl) ?_))
      refine CALLO 103 [.s (.ref 0)] (.s (.ref 6)) 61 3 (cloneL b.loads) encLoad zLoad 6 (by kernel_rfl) (by kernel_rfl) (goes_of (by kernel_rfl)) (by kernel_rfl) (by kernel_rfl) (fun _ => rfl) ((fun nV w h => cloneL_calls (nV 0) b.loads w (h.reads (id := 0) (kd := .ro) (e := 61) (by kernel_rfl)) (by first | assumption | omega | (simp only [List.length_set, cloneL]; omega)))) ?_
      refine WPO_all tt_ok (by kernel_rfl) ?_
      refine WP_le (s' := ⟨83, [(12, [], .s (.p 5 0)), (11, [], .s (.int .i64 (k2 : Int))), (40, [], .s (.int .i64 (k2 : Int))), (39, [], .s (.int .i64 (IntKind.i64.wrap ((IntKind.i64.wrap ((b.loads.getD k1 zLoad).w.hi - (b.loads.getD k1 zLoad).w.lo)) + 1)))), (10, [], .s (.int .i64 v2_1)), (7, [], .s (.int .i64 (k1 : Int))), (8, [], .s (.p 4 0)), (21, [], .s (.int .i64 (k1 : Int))), (20, [], .s (.int .i64 (b.loads.length : Int))), (19, [], .s (.ref 0)), (6, [], .s (.int .i64 v1_1)), (5, [], .s (.int .i64 v1_2)), (1, [], .s (.p 3 0))], [(6, .sl .own 61 3 (cloneL b.loads) encLoad zLoad), (5, .box 24 [.ref 6, .int .i64 b.rule, .int .i64 b.most]), (4, .box 61 [.int .i64 (b.loads.getD k1 zLoad).w.lo, .int .i64 (b.loads.getD k1 zLoad).w.hi, .int .i64 (b.loads.getD k1 zLoad).lanes]), (3, .box 24 [.ref 0, .int .i64 b.rule, .int .i64 b.most]), (0, .sl .ro 61 3 b.loads encLoad zLoad), (1, .pf NobodyAt (· = 1)), (2, .pf LanesAt (· = 0))], 7, []⟩) (Le_sel (ts := [12, 11, 40, 39, 10, 7, 8, 21, 20, 19, 6, 5, 1]) (ids := [6, 5, 4, 3, 0, 1, 2]) (nx := 7) (by kernel_rfl)) ?_
      refine WP_seq (WP_region (WPO_run tt_ok 14 (by kernel_rfl) ?_))
      refine IX tt_ok (k1 : Int) (cloneL b.loads).length [] (by kernel_rfl) (fun hG => ⟨by omega, by omega⟩) ?_
      refine WPO_run tt_ok 1 (by kernel_rfl) ?_
      refine EST tt_ok 6 (k1 : Int) 3 0 61 43 (cloneL b.loads) encLoad zLoad (⟨(⟨IntKind.i64.wrap ((b.loads.getD k1 zLoad).w.lo + (k2 : Int)), IntKind.i64.wrap ((b.loads.getD k1 zLoad).w.lo + (k2 : Int))⟩ : Span), ((cloneL b.loads).getD k1 zLoad).lanes⟩ : Load) (.g [.int .i64 (IntKind.i64.wrap ((b.loads.getD k1 zLoad).w.lo + (k2 : Int))), .int .i64 (IntKind.i64.wrap ((b.loads.getD k1 zLoad).w.lo + (k2 : Int)))]) (by kernel_rfl) (by kernel_rfl) (by kernel_rfl) (by kernel_rfl) ⟨by omega, by omega⟩ (fun n => rfl) ?_
      refine WPO_nil ?_
      refine WP_le (s' := ⟨83, [(12, [], .s (.p 5 0)), (40, [], .s (.int .i64 (k2 : Int))), (39, [], .s (.int .i64 (IntKind.i64.wrap ((IntKind.i64.wrap ((b.loads.getD k1 zLoad).w.hi - (b.loads.getD k1 zLoad).w.lo)) + 1)))), (10, [], .s (.int .i64 v2_1)), (7, [], .s (.int .i64 (k1 : Int))), (8, [], .s (.p 4 0)), (21, [], .s (.int .i64 (k1 : Int))), (20, [], .s (.int .i64 (b.loads.length : Int))), (19, [], .s (.ref 0)), (6, [], .s (.int .i64 v1_1)), (5, [], .s (.int .i64 v1_2)), (1, [], .s (.p 3 0))], [(6, .sl .own 61 3 ((cloneL b.loads).set k1 (⟨(⟨IntKind.i64.wrap ((b.loads.getD k1 zLoad).w.lo + (k2 : Int)), IntKind.i64.wrap ((b.loads.getD k1 zLoad).w.lo + (k2 : Int))⟩ : Span), ((cloneL b.loads).getD k1 zLoad).lanes⟩ : Load)) encLoad zLoad), (5, .box 24 [.ref 6, .int .i64 b.rule, .int .i64 b.most]), (4, .box 61 [.int .i64 (b.loads.getD k1 zLoad).w.lo, .int .i64 (b.loads.getD k1 zLoad).w.hi, .int .i64 (b.loads.getD k1 zLoad).lanes]), (3, .box 24 [.ref 0, .int .i64 b.rule, .int .i64 b.most]), (0, .sl .ro 61 3 b.loads encLoad zLoad), (1, .pf NobodyAt (· = 1)), (2, .pf LanesAt (· = 0))], 7, []⟩) (Le_sel (ts := [12, 40, 39, 10, 7, 8, 21, 20, 19, 6, 5, 1]) (ids := [6, 5, 4, 3, 0, 1, 2]) (nx := 7) (by kernel_rfl)) ?_
      refine WP_region (WPO_run tt_ok 2 (by kernel_rfl) ?_)
      refine CALLMAP 90 [.g [.ref 6, .int .i64 b.rule, .int .i64 b.most]] (plL (⟨(cloneL b.loads).set k1 (⟨(⟨IntKind.i64.wrap ((b.loads.getD k1 zLoad).w.lo + (k2 : Int)), IntKind.i64.wrap ((b.loads.getD k1 zLoad).w.lo + (k2 : Int))⟩ : Span), ((cloneL b.loads).getD k1 zLoad).lanes⟩ : Load), b.rule, b.most⟩ : DBook)) plKey plVal (fun gM7 => .g [.ref 6, .int .i64 b.rule, .int .i64 b.most, .v (.map (some gM7))]) (by kernel_rfl) (goes_of (by kernel_rfl)) (fun _ => (by kernel_rfl)) (fun _ => (by kernel_rfl)) (fun _ n n' h => by simp only [AV.c, cellsV, part1, AC.c, List.map_cons, List.map_nil, h 6 (by show 6 < 7; decide)]) (fun nV w h => opened_plL (nV 6) (⟨(cloneL b.loads).set k1 (⟨(⟨IntKind.i64.wrap ((b.loads.getD k1 zLoad).w.lo + (k2 : Int)), IntKind.i64.wrap ((b.loads.getD k1 zLoad).w.lo + (k2 : Int))⟩ : Span), ((cloneL b.loads).getD k1 zLoad).lanes⟩ : Load), b.rule, b.most⟩ : DBook) w (h.reads (id := 6) (kd := .own) (e := 61) (by kernel_rfl)) (h.ents (1, .pf NobodyAt (· = 1)) (fnd_mem (by kernel_rfl))).1 (by first | assumption | omega | (simp only [List.length_set, cloneL]; omega))) (fun gM7 => ?_)
      refine CALLSL 95 [.g [.ref 6, .int .i64 b.rule, .int .i64 b.most, .v (.map (some gM7))]] (fun sv8 => .s (.v sv8)) 1 (mostD (⟨(cloneL b.loads).set k1 (⟨(⟨IntKind.i64.wrap ((b.loads.getD k1 zLoad).w.lo + (k2 : Int)), IntKind.i64.wrap ((b.loads.getD k1 zLoad).w.lo + (k2 : Int))⟩ : Span), ((cloneL b.loads).getD k1 zLoad).lanes⟩ : Load), b.rule, b.most⟩ : DBook)) encI 0 (by decide) (by kernel_rfl) (goes_of (by kernel_rfl)) (fun _ => (by kernel_rfl)) (fun _ => (by kernel_rfl)) (fun _ _ _ => rfl) (fun nV w h => mostD_calls (nV 6) gM7 (⟨(cloneL b.loads).set k1 (⟨(⟨IntKind.i64.wrap ((b.loads.getD k1 zLoad).w.lo + (k2 : Int)), IntKind.i64.wrap ((b.loads.getD k1 zLoad).w.lo + (k2 : Int))⟩ : Span), ((cloneL b.loads).getD k1 zLoad).lanes⟩ : Load), b.rule, b.most⟩ : DBook) w (h.reads (id := 6) (kd := .own) (e := 61) (by kernel_rfl)) (h.ents (7, mapE gM7 (plL (⟨(cloneL b.loads).set k1 (⟨(⟨IntKind.i64.wrap ((b.loads.getD k1 zLoad).w.lo + (k2 : Int)), IntKind.i64.wrap ((b.loads.getD k1 zLoad).w.lo + (k2 : Int))⟩ : Span), ((cloneL b.loads).getD k1 zLoad).lanes⟩ : Load), b.rule, b.most⟩ : DBook)) plKey plVal) (fnd_mem (by kernel_rfl))).1 (h.ents (2, .pf LanesAt (· = 0)) (fnd_mem (by kernel_rfl))).1 (by first | assumption | omega | (simp only [List.length_set, cloneL]; omega))) (fun sv8 => ?_)
      refine SLEN tt_ok (.s (.v sv8)) [] (mostD (⟨(cloneL b.loads).set k1 (⟨(⟨IntKind.i64.wrap ((b.loads.getD k1 zLoad).w.lo + (k2 : Int)), IntKind.i64.wrap ((b.loads.getD k1 zLoad).w.lo + (k2 : Int))⟩ : Span), ((cloneL b.loads).getD k1 zLoad).lanes⟩ : Load), b.rule, b.most⟩ : DBook)).length (by kernel_rfl) (fun _ n w h => by obtain ⟨A, c, hv, _⟩ := (h.ents (8, slE sv8 1 (mostD (⟨(cloneL b.loads).set k1 (⟨(⟨IntKind.i64.wrap ((b.loads.getD k1 zLoad).w.lo + (k2 : Int)), IntKind.i64.wrap ((b.loads.getD k1 zLoad).w.lo + (k2 : Int))⟩ : Span), ((cloneL b.loads).getD k1 zLoad).lanes⟩ : Load), b.rule, b.most⟩ : DBook)) encI 0) (fnd_mem (by kernel_rfl))).1; exact ⟨A, c, hv⟩) (by kernel_rfl) ?_
      refine WPO_all tt_ok (by kernel_rfl) ?_
      refine WP_region (WPO_all tt_ok (by kernel_rfl) ?_)
      show Q2 .normal _
      exact LA_go hq2 (ci := IntKind.i64.wrap ((k2 : Int) + 1)) (mn v2_1 ((mostD (⟨(cloneL b.loads).set k1 (⟨(⟨IntKind.i64.wrap ((b.loads.getD k1 zLoad).w.lo + (k2 : Int)), IntKind.i64.wrap ((b.loads.getD k1 zLoad).w.lo + (k2 : Int))⟩ : Span), ((cloneL b.loads).getD k1 zLoad).lanes⟩ : Load), b.rule, b.most⟩ : DBook)).length : Int)) hk2 (by show _ = ((k2 + 1 : Nat) : Int); rw [wrapI (by omega) (by omega)]; omega) (loopR_go hi2 hk2 hc6 (rfl)) trivial (Le_sel (ts := [40, 39, 10, 7, 8, 21, 20, 19, 6, 5, 1]) (ids := [4, 3, 0, 1, 2]) (nx := 5) (by kernel_rfl))
    intro u2_0 hR2 hP2 s' hl
    refine WP_le hl ?_
    clear hl s'
    refine WP_le (s' := ⟨83, [(10, [], .s (.int .i64 u2_0)), (7, [], .s (.int .i64 (k1 : Int))), (21, [], .s (.int .i64 (k1 : Int))), (20, [], .s (.int .i64 (b.loads.length : Int))), (19, [], .s (.ref 0)), (6, [], .s (.int .i64 v1_1)), (5, [], .s (.int .i64 v1_2)), (1, [], .s (.p 3 0))], [(4, .box 61 [.int .i64 (b.loads.getD k1 zLoad).w.lo, .int .i64 (b.loads.getD k1 zLoad).w.hi, .int .i64 (b.loads.getD k1 zLoad).lanes]), (3, .box 24 [.ref 0, .int .i64 b.rule, .int .i64 b.most]), (0, .sl .ro 61 3 b.loads encLoad zLoad), (1, .pf NobodyAt (· = 1)), (2, .pf LanesAt (· = 0))], 5, []⟩) (Le_sel (ts := [10, 7, 21, 20, 19, 6, 5, 1]) (ids := [4, 3, 0, 1, 2]) (nx := 5) (by kernel_rfl)) ?_
    refine WP_seq (WP_region (WPO_run tt_ok 2 (by kernel_rfl) ?_))
    refine LIT tt_ok (by kernel_rfl) ?_
    refine LITSL 5 3 1 1 [.int .i64 v1_1] [v1_1] encI 0 (by kernel_rfl) rfl (fun _ => rfl) (fun n => rfl) ?_
    refine CALL 104 [.s (.int .i64 u2_0), .s (.ref 5)] (.s (.int .i64 (greatestD u2_0 ([v1_1])))) [] (by kernel_rfl) (goes_of (by kernel_rfl)) (by kernel_rfl) (by kernel_rfl) (fun _ nV w h => greatestD_calls (nV 5) u2_0 ([v1_1]) w (h.reads (id := 5) (kd := .own) (e := 3) (by kernel_rfl)) ) ?_
    refine WPO_all tt_ok (by kernel_rfl) ?_
    refine WP_join (decide ((greatestD u2_0 ([v1_1])) > v1_1)) (fun q => ⟨83, [(6, [], .s (.int .i64 (bif q then u2_0 else v1_1))), (5, [], .s (.int .i64 (bif q then (k1 : Int) else v1_2))), (21, [], .s (.int .i64 (k1 : Int))), (20, [], .s (.int .i64 (b.loads.length : Int))), (19, [], .s (.ref 0)), (1, [], .s (.p 3 0))], [(5, .sl .own 3 1 ([v1_1]) encI 0), (4, .box 61 [.int .i64 (b.loads.getD k1 zLoad).w.lo, .int .i64 (b.loads.getD k1 zLoad).w.hi, .int .i64 (b.loads.getD k1 zLoad).lanes]), (3, .box 24 [.ref 0, .int .i64 b.rule, .int .i64 b.most]), (0, .sl .ro 61 3 b.loads encLoad zLoad), (1, .pf NobodyAt (· = 1)), (2, .pf LanesAt (· = 0))], 6, []⟩) (by kernel_rfl) (fun hc8 => ?_) (fun hc8 => ?_) ?_
    · have hc8' := of_decide_eq_true hc8
      refine WP_region (WPO_all tt_ok (by kernel_rfl) ?_)
      exact Le_sel (ts := [6, 5, 21, 20, 19, 1]) (ids := [5, 4, 3, 0, 1, 2]) (nx := 6) (by kernel_rfl)
    · have hc8' := of_decide_eq_false hc8
      refine WP_skip ?_
      exact Le_sel (ts := [6, 5, 21, 20, 19, 1]) (ids := [5, 4, 3, 0, 1, 2]) (nx := 6) (by kernel_rfl)
    refine WP_region (WPO_all tt_ok (by kernel_rfl) ?_)
    show Q1 .normal _
    exact LA_go hq1 (ci := IntKind.i64.wrap ((k1 : Int) + 1)) (bif (decide ((greatestD u2_0 ([v1_1])) > v1_1)) then u2_0 else v1_1, bif (decide ((greatestD u2_0 ([v1_1])) > v1_1)) then (k1 : Int) else v1_2) hk1 (by show _ = ((k1 + 1 : Nat) : Int); rw [wrapI (by omega) (by omega)]; omega) (loopR_go hi1 hk1 hc3 (by unfold weighA_b1; simp only [hc5, hR2, cond_true, cond_false])) trivial (Le_sel (ts := [21, 20, 19, 6, 5, 1]) (ids := [3, 0, 1, 2]) (nx := 4) (by kernel_rfl))
  intro zz hR1 hP1 s' hl
  obtain ⟨u1_0, u1_1⟩ := zz
  refine WP_le hl ?_
  clear hl s'
  refine WP_seq (WP_seq (WP_region (WPO_all tt_ok (by kernel_rfl) ?_)))
  refine WP_cond (decide (u1_1 < 0)) (by kernel_rfl) (fun hc10 => ?_) (fun hc10 => ?_)
  · have hc10' := of_decide_eq_true hc10
    refine WP_seq (WP_region (WPO_all tt_ok (by kernel_rfl) ?_))
    refine WP_ret ?_
    exact ⟨.t [(false, [.int .i64 0]), (false, [.int .i64 4])], by kernel_rfl, fun nV w' h => ⟨by rw [show weighA b = (0, 4) from by unfold weighA; simp only [hc2, hR1, hc10, cond_true, cond_false]]; rfl, h.bel⟩⟩
  have hc10' := of_decide_eq_false hc10
  refine WP_skip ?_
  refine WP_seq (WP_region (WPO_all tt_ok (by kernel_rfl) ?_))
  refine WP_ret ?_
  exact ⟨.t [(false, [.int .i64 u1_1]), (false, [.int .i64 0])], by kernel_rfl, fun nV w' h => ⟨by rw [show weighA b = (u1_1, 0) from by unfold weighA; simp only [hc2, hR1, hc10, cond_true, cond_false]]; rfl, h.bel⟩⟩
end Go.Proofs.YthfnedbpmdkdjaaDoor.D
namespace Go.Proofs.YthfnedbpmdkdjaaDoor.D
open Go Go.RowKit Go.Proofs.YthfnedbpmdkdjaaDoor.Eng Go.Proofs.YthfnedbpmdkdjaaDoor.Cm
set_option linter.unusedVariables false
set_option linter.unusedSimpArgs false
set_option linter.unusedSectionVars false
def loadL (weight : Span) (lanes : Int) : Load :=
  (⟨weight, lanes⟩ : Load)
theorem loadL_calls  (weight : Span) (lanes : Int) (w : World)   : Calls Tryd.prog 42 #[.agg #[iv weight.lo, iv weight.hi], iv lanes] w fun e w' => e = .returned (.agg #[iv (loadL weight lanes).w.lo, iv (loadL weight lanes).w.hi, iv (loadL weight lanes).lanes]) ∧ Below w.heap.size w w' := by
  refine calls_of_WP (cx := cx0 w Eng.n0 0) (n := Eng.n0) (vs := [.g [.int .i64 weight.lo, .int .i64 weight.hi], .s (.int .i64 lanes)]) (hp := []) (nx := 0) tt_ok Tryd.func42 rfl rfl rfl (by kernel_rfl) (HSat0 _ _ _ _ _ _ (fun _ => rfl) (Nat.le_refl _)) (vsOk (by kernel_rfl)) ?_
  refine WP_seq (WP_region (WPO_all tt_ok (by kernel_rfl) ?_))
  refine WP_seq (WP_region (WPO_all tt_ok (by kernel_rfl) ?_))
  refine WP_ret ?_
  exact ⟨.g [.int .i64 weight.lo, .int .i64 weight.hi, .int .i64 lanes], by kernel_rfl, fun nV w' h => ⟨by rw [show loadL weight lanes = (⟨weight, lanes⟩ : Load) from rfl]; rfl, h.bel⟩⟩
def placeL (at_ : Int) (lane : Int) : Place :=
  (⟨at_, lane⟩ : Place)
theorem placeL_calls  (at_ : Int) (lane : Int) (w : World)   : Calls Tryd.prog 44 #[iv at_, iv lane] w fun e w' => e = .returned (.agg #[iv (placeL at_ lane).load, iv (placeL at_ lane).lane]) ∧ Below w.heap.size w w' := by
  refine calls_of_WP (cx := cx0 w Eng.n0 0) (n := Eng.n0) (vs := [.s (.int .i64 at_), .s (.int .i64 lane)]) (hp := []) (nx := 0) tt_ok Tryd.func44 rfl rfl rfl (by kernel_rfl) (HSat0 _ _ _ _ _ _ (fun _ => rfl) (Nat.le_refl _)) (vsOk (by kernel_rfl)) ?_
  refine WP_seq (WP_region (WPO_all tt_ok (by kernel_rfl) ?_))
  refine WP_seq (WP_region (WPO_all tt_ok (by kernel_rfl) ?_))
  refine WP_ret ?_
  exact ⟨.g [.int .i64 at_, .int .i64 lane], by kernel_rfl, fun nV w' h => ⟨by rw [show placeL at_ lane = (⟨at_, lane⟩ : Place) from rfl]; rfl, h.bel⟩⟩
def bookL (rule : Int) (most : Int) : DBook :=
  (⟨[(loadL (rangeF 10 12) 5), (loadL (rangeF 10 11) 5), (loadL (pointF 6) 7), (loadL (rangeF 20 22) 2)], rule, most⟩ : DBook)
theorem bookL_calls  (rule : Int) (most : Int) (w : World)   : Calls Tryd.prog 64 #[iv rule, iv most] w fun e w' => ∃ v0, e = .returned (.agg #[v0, iv (bookL rule most).rule, iv (bookL rule most).most]) ∧ Below w.heap.size w w' ∧ w'.ownsRow w.heap.size 61 3 v0 (bookL rule most).loads.length (flat (bookL rule most).loads encLoad) := by
  refine calls_of_WP (cx := cx0 w Eng.n0 0) (n := Eng.n0) (vs := [.s (.int .i64 rule), .s (.int .i64 most)]) (hp := []) (nx := 0) tt_ok Tryd.func64 rfl rfl rfl (by kernel_rfl) (HSat0 _ _ _ _ _ _ (fun _ => rfl) (Nat.le_refl _)) (vsOk (by kernel_rfl)) ?_
  refine WP_seq (WP_region (WPO_all tt_ok (by kernel_rfl) ?_))
  refine WP_seq (WP_region (CALL 40 [.s (.int .i64 10), .s (.int .i64 12)] (.g [.int .i64 (rangeF 10 12).lo, .int .i64 (rangeF 10 12).hi]) [] (by kernel_rfl) (goes_of (by kernel_rfl)) (by kernel_rfl) (by kernel_rfl) (fun _ nV w h => rangeF_calls  10 12 w  ) ?_))
  refine CALL 42 [.g [.int .i64 (rangeF 10 12).lo, .int .i64 (rangeF 10 12).hi], .s (.int .i64 5)] (.g [.int .i64 (loadL (rangeF 10 12) 5).w.lo, .int .i64 (loadL (rangeF 10 12) 5).w.hi, .int .i64 (loadL (rangeF 10 12) 5).lanes]) [] (by kernel_rfl) (goes_of (by kernel_rfl)) (by kernel_rfl) (by kernel_rfl) (fun _ nV w h => loadL_calls  (rangeF 10 12) 5 w  ) ?_
  refine CALL 40 [.s (.int .i64 10), .s (.int .i64 11)] (.g [.int .i64 (rangeF 10 11).lo, .int .i64 (rangeF 10 11).hi]) [] (by kernel_rfl) (goes_of (by kernel_rfl)) (by kernel_rfl) (by kernel_rfl) (fun _ nV w h => rangeF_calls  10 11 w  ) ?_
  refine CALL 42 [.g [.int .i64 (rangeF 10 11).lo, .int .i64 (rangeF 10 11).hi], .s (.int .i64 5)] (.g [.int .i64 (loadL (rangeF 10 11) 5).w.lo, .int .i64 (loadL (rangeF 10 11) 5).w.hi, .int .i64 (loadL (rangeF 10 11) 5).lanes]) [] (by kernel_rfl) (goes_of (by kernel_rfl)) (by kernel_rfl) (by kernel_rfl) (fun _ nV w h => loadL_calls  (rangeF 10 11) 5 w  ) ?_
  refine CALL 65 [.s (.int .i64 6)] (.g [.int .i64 (pointF 6).lo, .int .i64 (pointF 6).hi]) [] (by kernel_rfl) (goes_of (by kernel_rfl)) (by kernel_rfl) (by kernel_rfl) (fun _ nV w h => pointF_calls  6 w  ) ?_
  refine CALL 42 [.g [.int .i64 (pointF 6).lo, .int .i64 (pointF 6).hi], .s (.int .i64 7)] (.g [.int .i64 (loadL (pointF 6) 7).w.lo, .int .i64 (loadL (pointF 6) 7).w.hi, .int .i64 (loadL (pointF 6) 7).lanes]) [] (by kernel_rfl) (goes_of (by kernel_rfl)) (by kernel_rfl) (by kernel_rfl) (fun _ nV w h => loadL_calls  (pointF 6) 7 w  ) ?_
  refine CALL 40 [.s (.int .i64 20), .s (.int .i64 22)] (.g [.int .i64 (rangeF 20 22).lo, .int .i64 (rangeF 20 22).hi]) [] (by kernel_rfl) (goes_of (by kernel_rfl)) (by kernel_rfl) (by kernel_rfl) (fun _ nV w h => rangeF_calls  20 22 w  ) ?_
  refine CALL 42 [.g [.int .i64 (rangeF 20 22).lo, .int .i64 (rangeF 20 22).hi], .s (.int .i64 2)] (.g [.int .i64 (loadL (rangeF 20 22) 2).w.lo, .int .i64 (loadL (rangeF 20 22) 2).w.hi, .int .i64 (loadL (rangeF 20 22) 2).lanes]) [] (by kernel_rfl) (goes_of (by kernel_rfl)) (by kernel_rfl) (by kernel_rfl) (fun _ nV w h => loadL_calls  (rangeF 20 22) 2 w  ) ?_
  refine LIT tt_ok (by kernel_rfl) ?_
  refine LITSL 1 61 4 3 [.int .i64 (loadL (rangeF 10 12) 5).w.lo, .int .i64 (loadL (rangeF 10 12) 5).w.hi, .int .i64 (loadL (rangeF 10 12) 5).lanes, .int .i64 (loadL (rangeF 10 11) 5).w.lo, .int .i64 (loadL (rangeF 10 11) 5).w.hi, .int .i64 (loadL (rangeF 10 11) 5).lanes, .int .i64 (loadL (pointF 6) 7).w.lo, .int .i64 (loadL (pointF 6) 7).w.hi, .int .i64 (loadL (pointF 6) 7).lanes, .int .i64 (loadL (rangeF 20 22) 2).w.lo, .int .i64 (loadL (rangeF 20 22) 2).w.hi, .int .i64 (loadL (rangeF 20 22) 2).lanes] [(loadL (rangeF 10 12) 5), (loadL (rangeF 10 11) 5), (loadL (pointF 6) 7), (loadL (rangeF 20 22) 2)] encLoad zLoad (by kernel_rfl) rfl (fun _ => rfl) (fun n => rfl) ?_
  refine WPO_all tt_ok (by kernel_rfl) ?_
  refine WP_ret ?_
  exact ⟨.g [.ref 1, .int .i64 rule, .int .i64 most], by kernel_rfl, fun nV w' h => ⟨nV 1, by rw [show bookL rule most = (⟨[(loadL (rangeF 10 12) 5), (loadL (rangeF 10 11) 5), (loadL (pointF 6) 7), (loadL (rangeF 20 22) 2)], rule, most⟩ : DBook) from rfl]; rfl, h.bel, by rw [show bookL rule most = (⟨[(loadL (rangeF 10 12) 5), (loadL (rangeF 10 11) 5), (loadL (pointF 6) 7), (loadL (rangeF 20 22) 2)], rule, most⟩ : DBook) from rfl]; exact own_of (z := zLoad) h (by kernel_rfl)⟩⟩
def ownL  : DBook :=
  (bookL 12 40)
theorem ownL_calls   (w : World)   : Calls Tryd.prog 63 #[] w fun e w' => ∃ v0, e = .returned (.agg #[v0, iv ownL.rule, iv ownL.most]) ∧ Below w.heap.size w w' ∧ w'.ownsRow w.heap.size 61 3 v0 ownL.loads.length (flat ownL.loads encLoad) := by
  refine calls_of_WP (cx := cx0 w Eng.n0 0) (n := Eng.n0) (vs := []) (hp := []) (nx := 0) tt_ok Tryd.func63 rfl rfl rfl (by kernel_rfl) (HSat0 _ _ _ _ _ _ (fun _ => rfl) (Nat.le_refl _)) (vsOk (by kernel_rfl)) ?_
  refine WP_seq (WP_region (WPO_all tt_ok (by kernel_rfl) ?_))
  refine WP_seq (WP_region (CALLO 64 [.s (.int .i64 12), .s (.int .i64 40)] (.g [.ref 1, .int .i64 (bookL 12 40).rule, .int .i64 (bookL 12 40).most]) 61 3 (bookL 12 40).loads encLoad zLoad 1 (by kernel_rfl) (by kernel_rfl) (goes_of (by kernel_rfl)) (by kernel_rfl) (by kernel_rfl) (fun _ => rfl) ((fun nV w h => bookL_calls  12 40 w  )) ?_))
  refine WPO_all tt_ok (by kernel_rfl) ?_
  refine WP_ret ?_
  exact ⟨.g [.ref 1, .int .i64 (bookL 12 40).rule, .int .i64 (bookL 12 40).most], by kernel_rfl, fun nV w' h => ⟨nV 1, by rw [show ownL = (bookL 12 40) from rfl]; rfl, h.bel, by rw [show ownL = (bookL 12 40) from rfl]; exact own_of (z := zLoad) h (by kernel_rfl)⟩⟩
def strictL  : DBook :=
  (bookL 11 40)
theorem strictL_calls   (w : World)   : Calls Tryd.prog 67 #[] w fun e w' => ∃ v0, e = .returned (.agg #[v0, iv strictL.rule, iv strictL.most]) ∧ Below w.heap.size w w' ∧ w'.ownsRow w.heap.size 61 3 v0 strictL.loads.length (flat strictL.loads encLoad) := by
  refine calls_of_WP (cx := cx0 w Eng.n0 0) (n := Eng.n0) (vs := []) (hp := []) (nx := 0) tt_ok Tryd.func67 rfl rfl rfl (by kernel_rfl) (HSat0 _ _ _ _ _ _ (fun _ => rfl) (Nat.le_refl _)) (vsOk (by kernel_rfl)) ?_
  refine WP_seq (WP_region (WPO_all tt_ok (by kernel_rfl) ?_))
  refine WP_seq (WP_region (CALLO 64 [.s (.int .i64 11), .s (.int .i64 40)] (.g [.ref 1, .int .i64 (bookL 11 40).rule, .int .i64 (bookL 11 40).most]) 61 3 (bookL 11 40).loads encLoad zLoad 1 (by kernel_rfl) (by kernel_rfl) (goes_of (by kernel_rfl)) (by kernel_rfl) (by kernel_rfl) (fun _ => rfl) ((fun nV w h => bookL_calls  11 40 w  )) ?_))
  refine WPO_all tt_ok (by kernel_rfl) ?_
  refine WP_ret ?_
  exact ⟨.g [.ref 1, .int .i64 (bookL 11 40).rule, .int .i64 (bookL 11 40).most], by kernel_rfl, fun nV w' h => ⟨nV 1, by rw [show strictL = (bookL 11 40) from rfl]; rfl, h.bel, by rw [show strictL = (bookL 11 40) from rfl]; exact own_of (z := zLoad) h (by kernel_rfl)⟩⟩
def lightL  : DBook :=
  (bookL 12 28)
theorem lightL_calls   (w : World)   : Calls Tryd.prog 71 #[] w fun e w' => ∃ v0, e = .returned (.agg #[v0, iv lightL.rule, iv lightL.most]) ∧ Below w.heap.size w w' ∧ w'.ownsRow w.heap.size 61 3 v0 lightL.loads.length (flat lightL.loads encLoad) := by
  refine calls_of_WP (cx := cx0 w Eng.n0 0) (n := Eng.n0) (vs := []) (hp := []) (nx := 0) tt_ok Tryd.func71 rfl rfl rfl (by kernel_rfl) (HSat0 _ _ _ _ _ _ (fun _ => rfl) (Nat.le_refl _)) (vsOk (by kernel_rfl)) ?_
  refine WP_seq (WP_region (WPO_all tt_ok (by kernel_rfl) ?_))
  refine WP_seq (WP_region (CALLO 64 [.s (.int .i64 12), .s (.int .i64 28)] (.g [.ref 1, .int .i64 (bookL 12 28).rule, .int .i64 (bookL 12 28).most]) 61 3 (bookL 12 28).loads encLoad zLoad 1 (by kernel_rfl) (by kernel_rfl) (goes_of (by kernel_rfl)) (by kernel_rfl) (by kernel_rfl) (fun _ => rfl) ((fun nV w h => bookL_calls  12 28 w  )) ?_))
  refine WPO_all tt_ok (by kernel_rfl) ?_
  refine WP_ret ?_
  exact ⟨.g [.ref 1, .int .i64 (bookL 12 28).rule, .int .i64 (bookL 12 28).most], by kernel_rfl, fun nV w' h => ⟨nV 1, by rw [show lightL = (bookL 12 28) from rfl]; rfl, h.bel, by rw [show lightL = (bookL 12 28) from rfl]; exact own_of (z := zLoad) h (by kernel_rfl)⟩⟩
def wideL  : DBook :=
  (⟨ownL.loads ++ ([(loadL (pointF 30) 1)]), ownL.rule, ownL.most⟩ : DBook)
theorem wideL_calls   (w : World)   : Calls Tryd.prog 69 #[] w fun e w' => ∃ v0, e = .returned (.agg #[v0, iv wideL.rule, iv wideL.most]) ∧ Below w.heap.size w w' ∧ w'.ownsRow w.heap.size 61 3 v0 wideL.loads.length (flat wideL.loads encLoad) := by
  refine calls_of_WP (cx := cx0 w Eng.n0 0) (n := Eng.n0) (vs := []) (hp := []) (nx := 0) tt_ok Tryd.func69 rfl rfl rfl (by kernel_rfl) (HSat0 _ _ _ _ _ _ (fun _ => rfl) (Nat.le_refl _)) (vsOk (by kernel_rfl)) ?_
  have hol : ownL.loads.length = 4 := rfl
  refine WP_seq (WP_region (WPO_all tt_ok (by kernel_rfl) ?_))
  refine WP_seq (WP_region (CALLO 63 [] (.g [.ref 1, .int .i64 ownL.rule, .int .i64 ownL.most]) 61 3 ownL.loads encLoad zLoad 1 (by kernel_rfl) (by kernel_rfl) (goes_of (by kernel_rfl)) (by kernel_rfl) (by kernel_rfl) (fun _ => rfl) ((fun nV w h => ownL_calls   w  )) ?_))
  refine WPO_all tt_ok (by kernel_rfl) ?_
  refine WP_seq (WP_drawHM 7 [1] [2] (by kernel_rfl) (by kernel_rfl) ?_)
  refine H_run tt_ok [0, 1] (f' := 5) (by kernel_rfl) (by kernel_rfl) (by kernel_rfl) ?_
  refine H_step 2 (by kernel_rfl) (by kernel_rfl) (fun hfz cx' hx1 hx2 => ?_)
  refine CALL 65 [.s (.int .i64 30)] (.g [.int .i64 (pointF 30).lo, .int .i64 (pointF 30).hi]) [] (by kernel_rfl) (goes_of (by kernel_rfl)) (by kernel_rfl) (by kernel_rfl) (fun _ nV w h => pointF_calls  30 w  ) ?_
  refine WPO_end (by kernel_rfl) ⟨rfl, (hfz.fnds [2, 0] (by kernel_rfl) ⟨by kernel_rfl, by kernel_rfl, trivial⟩ (by kernel_rfl)), ?_⟩
  refine H_step 3 (by kernel_rfl) (by kernel_rfl) (fun hfz cx' hx1 hx2 => ?_)
  refine CALL 42 [.g [.int .i64 (pointF 30).lo, .int .i64 (pointF 30).hi], .s (.int .i64 1)] (.g [.int .i64 (loadL (pointF 30) 1).w.lo, .int .i64 (loadL (pointF 30) 1).w.hi, .int .i64 (loadL (pointF 30) 1).lanes]) [] (by kernel_rfl) (goes_of (by kernel_rfl)) (by kernel_rfl) (by kernel_rfl) (fun _ nV w h => loadL_calls  (pointF 30) 1 w  ) ?_
  refine WPO_end (by kernel_rfl) ⟨rfl, (hfz.fnds [2, 0] (by kernel_rfl) ⟨by kernel_rfl, by kernel_rfl, trivial⟩ (by kernel_rfl)), ?_⟩
  refine H_step 4 (by kernel_rfl) (by kernel_rfl) (fun hfz cx' hx1 hx2 => ?_)
  refine LIT tt_ok (by kernel_rfl) ?_
  refine LITSL 3 61 1 3 [.int .i64 (loadL (pointF 30) 1).w.lo, .int .i64 (loadL (pointF 30) 1).w.hi, .int .i64 (loadL (pointF 30) 1).lanes] [(loadL (pointF 30) 1)] encLoad zLoad (by kernel_rfl) rfl (fun _ => rfl) (fun n => rfl) ?_
  refine WPO_end (by kernel_rfl) ⟨rfl, (hfz.fnds [2, 0] (by kernel_rfl) ⟨by kernel_rfl, by kernel_rfl, trivial⟩ (by kernel_rfl)), ?_⟩
  refine H_step 5 (by kernel_rfl) (by kernel_rfl) (fun hfz cx' hx1 hx2 => ?_)
  refine APP tt_ok (.s (.ref 1)) (.s (.ref 3)) 22 61 (some 8) 3 ownL.loads ([(loadL (pointF 30) 1)]) encLoad zLoad (by kernel_rfl) (by kernel_rfl) (by kernel_rfl) (by kernel_rfl) (.inr (.inl ⟨1, rfl, (by kernel_rfl)⟩)) (.inr ⟨3, .own, rfl, (by kernel_rfl), (by simp only [List.length_cons, List.length_nil]; omega)⟩) (by simp) (fun y => rfl) (fun y => List.all_eq_true.1 rfl) (fun i hi => (by have hby : (tyL tt 61).map (·.bytes) = some 24 := (by kernel_rfl); rw [hi] at hby; simp only [Option.map_some, Option.some.injEq] at hby; rw [hby]; simp only [List.length_append, List.length_cons, List.length_nil]; omega)) ?_
  refine WPO_end (by kernel_rfl) ⟨rfl, (hfz.fnds [2, 0] (by kernel_rfl) ⟨by kernel_rfl, by kernel_rfl, trivial⟩ (by kernel_rfl)), ?_⟩
  refine H_run tt_ok [6] (f' := 0) (by kernel_rfl) (by kernel_rfl) (by kernel_rfl) ?_
  refine H_done (by kernel_rfl) ?_
  refine ⟨(by kernel_rfl), ?_⟩
  refine H_step 7 (by kernel_rfl) (by kernel_rfl) (fun hfz cx' hx1 hx2 => ?_)
  refine WPO_all tt_ok (by kernel_rfl) ?_
  refine ⟨rfl, (hfz.fnds [4, 3, 0] (by kernel_rfl) ⟨by kernel_rfl, by kernel_rfl, by kernel_rfl, trivial⟩ (by kernel_rfl)), ?_⟩
  refine H_done (by kernel_rfl) ?_
  refine WP_seq (WP_region (WPO_all tt_ok (by kernel_rfl) ?_))
  refine WP_ret ?_
  exact ⟨.g [.ref 4, .int .i64 ownL.rule, .int .i64 ownL.most], by kernel_rfl, fun nV w' h => ⟨nV 4, by rw [show wideL = (⟨ownL.loads ++ ([(loadL (pointF 30) 1)]), ownL.rule, ownL.most⟩ : DBook) from rfl]; rfl, h.bel, by rw [show wideL = (⟨ownL.loads ++ ([(loadL (pointF 30) 1)]), ownL.rule, ownL.most⟩ : DBook) from rfl]; exact own_of (z := zLoad) h (by kernel_rfl)⟩⟩
def bothL  : (List Place) :=
  [(placeL 0 0), (placeL 1 2)]
theorem bothL_calls   (w : World)   : Calls Tryd.prog 68 #[] w fun e w' => ∃ v0, e = .returned (v0) ∧ Below w.heap.size w w' ∧ w'.ownsRow w.heap.size 65 2 v0 bothL.length (flat bothL encPlace) := by
  refine calls_of_WP (cx := cx0 w Eng.n0 0) (n := Eng.n0) (vs := []) (hp := []) (nx := 0) tt_ok Tryd.func68 rfl rfl rfl (by kernel_rfl) (HSat0 _ _ _ _ _ _ (fun _ => rfl) (Nat.le_refl _)) (vsOk (by kernel_rfl)) ?_
  refine WP_seq (WP_region (WPO_all tt_ok (by kernel_rfl) ?_))
  refine WP_seq (WP_region (CALL 44 [.s (.int .i64 0), .s (.int .i64 0)] (.g [.int .i64 (placeL 0 0).load, .int .i64 (placeL 0 0).lane]) [] (by kernel_rfl) (goes_of (by kernel_rfl)) (by kernel_rfl) (by kernel_rfl) (fun _ nV w h => placeL_calls  0 0 w  ) ?_))
  refine CALL 44 [.s (.int .i64 1), .s (.int .i64 2)] (.g [.int .i64 (placeL 1 2).load, .int .i64 (placeL 1 2).lane]) [] (by kernel_rfl) (goes_of (by kernel_rfl)) (by kernel_rfl) (by kernel_rfl) (fun _ nV w h => placeL_calls  1 2 w  ) ?_
  refine LIT tt_ok (by kernel_rfl) ?_
  refine LITSL 0 65 2 2 [.int .i64 (placeL 0 0).load, .int .i64 (placeL 0 0).lane, .int .i64 (placeL 1 2).load, .int .i64 (placeL 1 2).lane] [(placeL 0 0), (placeL 1 2)] encPlace zPlace (by kernel_rfl) rfl (fun _ => rfl) (fun n => rfl) ?_
  refine WPO_all tt_ok (by kernel_rfl) ?_
  refine WP_ret ?_
  exact ⟨.s (.ref 0), by kernel_rfl, fun nV w' h => ⟨nV 0, rfl, h.bel, by rw [show bothL = ([(placeL 0 0), (placeL 1 2)]) from rfl]; exact own_of (z := zPlace) h (by kernel_rfl)⟩⟩
def sameL_c1 (l : List Place) (m : List Place) (k1 : Nat) : Unit → Bool := fun _ => decide ((k1 : Int) < (l.length : Int))
def sameL_b1 (l : List Place) (m : List Place) (k1 : Nat) : Unit → Bd Unit Bool := fun _ => (bif !((l.getD k1 zPlace).load == (m.getD k1 zPlace).load && (l.getD k1 zPlace).lane == (m.getD k1 zPlace).lane) then .ret false else .go ())
def sameL (l : List Place) (m : List Place) : Bool :=
  (bif (l.length : Int) != (m.length : Int) then false else (match loopR (sameL_c1 l m) (sameL_b1 l m) l.length 0 () with | .brk () => true | .ret r => r))
theorem sameL_calls (g0 g1 : Value) (l : List Place) (m : List Place) (w : World) (r0 : Reads w g0 2 l encPlace zPlace) (r1 : Reads w g1 2 m encPlace zPlace)  : Calls Tryd.prog 70 #[g0, g1] w fun e w' => e = .returned (.bool (sameL l m)) ∧ Below w.heap.size w w' := by
  refine calls_of_WP (cx := cx0 w (vn [g0, g1]) 2) (n := vn [g0, g1]) (vs := [.s (.ref 0), .s (.ref 1)]) (hp := [(0, .sl .ro 65 2 l encPlace zPlace), (1, .sl .ro 65 2 m encPlace zPlace)]) (nx := 2) tt_ok Tryd.func70 rfl rfl rfl (by kernel_rfl) (HSat_args (vn_one (by simp [r0.one, r1.one])) (Nat.le_refl _) ⟨⟨⟨fun _ => rfl, by decide, r0⟩, (Nat.le_of_ble_eq_true rfl)⟩, ⟨⟨fun _ => rfl, by decide, r1⟩, (Nat.le_of_ble_eq_true rfl)⟩, trivial⟩) (vsOk (by kernel_rfl)) ?_
  have hl0 := Reads.len r0
  have hl1 := Reads.len r1
  refine WP_seq (WP_region (WPO_all tt_ok (by kernel_rfl) ?_))
  refine WP_seq (WP_seq (WP_region (WPO_all tt_ok (by kernel_rfl) ?_)))
  refine WP_cond ((l.length : Int) != (m.length : Int)) (by kernel_rfl) (fun hc2 => ?_) (fun hc2 => ?_)
  · have hc2' := hc2; try simp only [Bool.and_eq_true, Bool.or_eq_true, Bool.and_eq_false_iff, Bool.or_eq_false_iff, Bool.not_eq_true', Bool.not_eq_false', decide_eq_true_eq, decide_eq_false_iff_not, beq_iff_eq, beq_eq_false_iff_ne, bne_iff_ne, bne_eq_false_iff_eq, ne_eq] at hc2'
    refine WP_seq (WP_region (WPO_all tt_ok (by kernel_rfl) ?_))
    refine WP_ret ?_
    exact ⟨.s (.bool false), by kernel_rfl, fun nV w' h => ⟨by rw [show sameL l m = false from by unfold sameL; simp only [hc2, cond_true, cond_false]]; rfl, h.bel⟩⟩
  have hc2' := hc2; try simp only [Bool.and_eq_true, Bool.or_eq_true, Bool.and_eq_false_iff, Bool.or_eq_false_iff, Bool.not_eq_true', Bool.not_eq_false', decide_eq_true_eq, decide_eq_false_iff_not, beq_iff_eq, beq_eq_false_iff_ne, bne_iff_ne, bne_eq_false_iff_eq, ne_eq] at hc2'
  refine WP_skip ?_
  refine WP_seq (WP_seq (WP_region (WPO_all tt_ok (by kernel_rfl) ?_)))
  refine WP_loopA (ρ := Bool) (sameL_c1 l m) (sameL_b1 l m) l.length () (fun k : Nat => (k : Int)) (fun (ci : Int) (zz : Unit) => ⟨26, [(5, [], .s (.int .i64 ci)), (0, [], .s (.ref 0)), (1, [], .s (.ref 1))], [(0, .sl .ro 65 2 l encPlace zPlace), (1, .sl .ro 65 2 m encPlace zPlace)], 2, []⟩) (fun zz : Unit => ⟨26, [], [(0, .sl .ro 65 2 l encPlace zPlace), (1, .sl .ro 65 2 m encPlace zPlace)], 2, []⟩) (fun k zz => True) trivial ⟨0, rfl, Le_sel (ts := [5, 0, 1]) (ids := [0, 1]) (nx := 2) (by kernel_rfl)⟩ ?_ ?_
  · intro k1 zz hn1 hp1 hi1 Q1 hq1 ho1
    refine WP_seq (WP_seq (WP_region (WPO_all tt_ok (by kernel_rfl) ?_)))
    refine WP_cond (decide ((k1 : Int) < (l.length : Int))) (by kernel_rfl) (fun hc3 => ?_) (fun hc3 => ?_)
    rotate_left
    · refine WP_exit ?_
      show Q1 (.exit 0) _
      exact LA_exit hq1 () (loopR_end hi1 hc3) ⟨k1, hn1, hp1⟩ (Le_sel (ts := []) (ids := [0, 1]) (nx := 2) (by kernel_rfl))
    have hc3' := of_decide_eq_true hc3
    have hk1 : k1 < l.length := by omega
    refine WP_skip ?_
    refine WP_seq (WP_block ?_)
    refine WP_seq (WP_draw (by kernel_rfl) (by kernel_rfl) ?_)
    refine WPQ_run tt_ok 2 (by kernel_rfl) ?_
    refine QIX tt_ok (k1 : Int) l.length [] (by kernel_rfl) (fun hG => ⟨by omega, by omega⟩) ?_
    refine WPQ_run tt_ok 3 (by kernel_rfl) ?_
    refine QIX tt_ok (k1 : Int) m.length [] (by kernel_rfl) (fun hG => ⟨by omega, by omega⟩) ?_
    refine WPQ_run tt_ok 1 (by kernel_rfl) ?_
    refine QBIN .neq 65 (.tmp 20) (.tmp 24) (.g [.int .i64 (l.getD k1 zPlace).load, .int .i64 (l.getD k1 zPlace).lane]) (.g [.int .i64 (m.getD k1 zPlace).load, .int .i64 (m.getD k1 zPlace).lane]) (.s (.bool (!((l.getD k1 zPlace).load == (m.getD k1 zPlace).load && (l.getD k1 zPlace).lane == (m.getD k1 zPlace).lane)))) [] (by kernel_rfl) (by kernel_rfl) (by kernel_rfl) (fun _ => BinOk_pairN (by kernel_rfl) _ _ _ _) ?_
    refine WPQ_nil ?_
    refine WP_cond (!((l.getD k1 zPlace).load == (m.getD k1 zPlace).load && (l.getD k1 zPlace).lane == (m.getD k1 zPlace).lane)) (by kernel_rfl) (fun hc5 => ?_) (fun hc5 => ?_)
    · have hc5' := hc5; try simp only [Bool.and_eq_true, Bool.or_eq_true, Bool.and_eq_false_iff, Bool.or_eq_false_iff, Bool.not_eq_true', Bool.not_eq_false', decide_eq_true_eq, decide_eq_false_iff_not, beq_iff_eq, beq_eq_false_iff_ne, bne_iff_ne, bne_eq_false_iff_eq, ne_eq] at hc5'
      refine WP_seq (WP_region (WPO_all tt_ok (by kernel_rfl) ?_))
      refine WP_ret ?_
      show Q1 .ret _
      refine LA_ret hq1 ?_
      have he6 := loopR_ret (r := false) hi1 hk1 hc3 (by unfold sameL_b1; simp only [hc5, cond_true, cond_false])
      exact ⟨.s (.bool false), by kernel_rfl, fun nV w' h => ⟨by rw [show sameL l m = false from by unfold sameL; simp only [hc2, he6, cond_true, cond_false]]; rfl, h.bel⟩⟩
    have hc5' := hc5; try simp only [Bool.and_eq_true, Bool.or_eq_true, Bool.and_eq_false_iff, Bool.or_eq_false_iff, Bool.not_eq_true', Bool.not_eq_false', decide_eq_true_eq, decide_eq_false_iff_not, beq_iff_eq, beq_eq_false_iff_ne, bne_iff_ne, bne_eq_false_iff_eq, ne_eq] at hc5'
    refine WP_skip ?_
    refine WP_region (WPO_all tt_ok (by kernel_rfl) ?_)
    show Q1 .normal _
    exact LA_go hq1 (ci := IntKind.i64.wrap ((k1 : Int) + 1)) () hk1 (by show _ = ((k1 + 1 : Nat) : Int); rw [wrapI (by omega) (by omega)]; omega) (loopR_go hi1 hk1 hc3 (by unfold sameL_b1; simp only [hc5, cond_true, cond_false])) trivial (Le_sel (ts := [5, 0, 1]) (ids := [0, 1]) (nx := 2) (by kernel_rfl))
  intro zz hR1 hP1 s' hl
  refine WP_le hl ?_
  clear hl s'
  refine WP_seq (WP_region (WPO_all tt_ok (by kernel_rfl) ?_))
  refine WP_ret ?_
  exact ⟨.s (.bool true), by kernel_rfl, fun nV w' h => ⟨by rw [show sameL l m = true from by unfold sameL; simp only [hc2, hR1, cond_true, cond_false]]; rfl, h.bel⟩⟩
end Go.Proofs.YthfnedbpmdkdjaaDoor.D
namespace Go.Proofs.YthfnedbpmdkdjaaDoor.D
open Go Go.RowKit Go.Proofs.YthfnedbpmdkdjaaDoor.Eng Go.Proofs.YthfnedbpmdkdjaaDoor.Cm
set_option linter.unusedVariables false
set_option linter.unusedSimpArgs false
set_option linter.unusedSectionVars false
def stowedL  : Bool :=
  (bif ((((((((((listA ownL bothL).2 != 0) || ((levelA strictL ([(placeL 0 0)])).2 != 0)) || ((tiltsA ownL ([(placeL 0 0), (placeL 1 0)])).2 != 0)) || ((stowA strictL ([0, 1])).2 != 0)) || ((mostA ownL).2 != 0)) || (!((listA ownL bothL).1.lo == (rangeF (-1) 2).lo && (listA ownL bothL).1.hi == (rangeF (-1) 2).hi))) || ((levelA strictL ([(placeL 0 0)])).1 != 1)) || ((tiltsA ownL ([(placeL 0 0), (placeL 1 0)])).1 != 1)) || (!(sameL (stowA strictL ([0, 1])).1 (bif (true && ((((((((((listA ownL bothL).2 != 0) || ((levelA strictL ([(placeL 0 0)])).2 != 0)) || ((tiltsA ownL ([(placeL 0 0), (placeL 1 0)])).2 != 0)) || ((stowA strictL ([0, 1])).2 != 0)) || ((mostA ownL).2 != 0)) || (!((listA ownL bothL).1.lo == (rangeF (-1) 2).lo && (listA ownL bothL).1.hi == (rangeF (-1) 2).hi))) || ((levelA strictL ([(placeL 0 0)])).1 != 1)) || ((tiltsA ownL ([(placeL 0 0), (placeL 1 0)])).1 != 1)) == false)) then [(placeL 1 0), (placeL 0 2)] else [])))) || (!(alikeF (mostA ownL).1 (bif (true && (((((((((((listA ownL bothL).2 != 0) || ((levelA strictL ([(placeL 0 0)])).2 != 0)) || ((tiltsA ownL ([(placeL 0 0), (placeL 1 0)])).2 != 0)) || ((stowA strictL ([0, 1])).2 != 0)) || ((mostA ownL).2 != 0)) || (!((listA ownL bothL).1.lo == (rangeF (-1) 2).lo && (listA ownL bothL).1.hi == (rangeF (-1) 2).hi))) || ((levelA strictL ([(placeL 0 0)])).1 != 1)) || ((tiltsA ownL ([(placeL 0 0), (placeL 1 0)])).1 != 1)) || (!(sameL (stowA strictL ([0, 1])).1 (bif (true && ((((((((((listA ownL bothL).2 != 0) || ((levelA strictL ([(placeL 0 0)])).2 != 0)) || ((tiltsA ownL ([(placeL 0 0), (placeL 1 0)])).2 != 0)) || ((stowA strictL ([0, 1])).2 != 0)) || ((mostA ownL).2 != 0)) || (!((listA ownL bothL).1.lo == (rangeF (-1) 2).lo && (listA ownL bothL).1.hi == (rangeF (-1) 2).hi))) || ((levelA strictL ([(placeL 0 0)])).1 != 1)) || ((tiltsA ownL ([(placeL 0 0), (placeL 1 0)])).1 != 1)) == false)) then [(placeL 1 0), (placeL 0 2)] else [])))) == false)) then [0, 1, 2] else []))) then false else ((((((fewestA lightL).2 == 0) && ((neverA wideL).2 == 0)) && ((weighA ownL).2 == 0)) && (alikeF (fewestA lightL).1 (bif (true && (((((fewestA lightL).2 == 0) && ((neverA wideL).2 == 0)) && ((weighA ownL).2 == 0)) == true)) then [0, 0, 1, 1] else []))) && (alikeF (neverA wideL).1 (bif (true && ((((((fewestA lightL).2 == 0) && ((neverA wideL).2 == 0)) && ((weighA ownL).2 == 0)) && (alikeF (fewestA lightL).1 (bif (true && (((((fewestA lightL).2 == 0) && ((neverA wideL).2 == 0)) && ((weighA ownL).2 == 0)) == true)) then [0, 0, 1, 1] else []))) == true)) then [4] else []))) && ((weighA ownL).1 == 0))
theorem stowedL_calls   (w : World)  (hnb : NobodyAt w) (hla : LanesAt w) : Calls Tryd.prog 21 #[] w fun e w' => e = .returned (.bool stowedL) ∧ Below w.heap.size w w' := by
  refine calls_of_WP (cx := cx0 w Eng.n0 0) (n := Eng.n0) (vs := []) (hp := [(0, .pf NobodyAt (· = 1)), (1, .pf LanesAt (· = 0))]) (nx := 2) tt_ok Tryd.func21 rfl rfl rfl (by kernel_rfl) (HSat_args (fun _ => rfl) (by decide) ⟨⟨⟨hnb, fun w1 w2 h1 hw => (hw 1 rfl).trans h1, fun g hg => by cases hg; exact (Array.getElem?_eq_some_iff.1 hnb).1⟩, (Nat.le_of_ble_eq_true rfl)⟩, ⟨⟨hla, fun w1 w2 h1 hw => (hw 0 rfl).trans h1, fun g hg => by cases hg; exact (Array.getElem?_eq_some_iff.1 hla).1⟩, (Nat.le_of_ble_eq_true rfl)⟩, trivial⟩) (vsOk (by kernel_rfl)) ?_
  refine WP_seq (WP_region (WPO_all tt_ok (by kernel_rfl) ?_))
  refine WP_seq (WP_region (CALLO 63 [] (.g [.ref 2, .int .i64 ownL.rule, .int .i64 ownL.most]) 61 3 ownL.loads encLoad zLoad 2 (by kernel_rfl) (by kernel_rfl) (goes_of (by kernel_rfl)) (by kernel_rfl) (by kernel_rfl) (fun _ => rfl) ((fun nV w h => ownL_calls   w  )) ?_))
  refine CALLO 68 [] (.s (.ref 3)) 65 2 bothL encPlace zPlace 3 (by kernel_rfl) (by kernel_rfl) (goes_of (by kernel_rfl)) (by kernel_rfl) (by kernel_rfl) (fun _ => rfl) ((fun nV w h => bothL_calls   w  )) ?_
  refine CALL 30 [.g [.ref 2, .int .i64 ownL.rule, .int .i64 ownL.most], .s (.ref 3)] (.t [(true, [.int .i64 (listA ownL bothL).1.lo, .int .i64 (listA ownL bothL).1.hi]), (false, [.int .i64 (listA ownL bothL).2])]) [] (by kernel_rfl) (goes_of (by kernel_rfl)) (by kernel_rfl) (by kernel_rfl) (fun _ nV w h => listA_calls (nV 2) (nV 3) ownL bothL w (h.reads (id := 2) (kd := .own) (e := 61) (by kernel_rfl)) (h.reads (id := 3) (kd := .own) (e := 65) (by kernel_rfl)) (h.ents (0, .pf NobodyAt (· = 1)) (fnd_mem (by kernel_rfl))).1 (h.ents (1, .pf LanesAt (· = 0)) (fnd_mem (by kernel_rfl))).1 ) ?_
  refine WPO_all tt_ok (by kernel_rfl) ?_
  refine WP_seq (WP_region (CALLO 67 [] (.g [.ref 5, .int .i64 strictL.rule, .int .i64 strictL.most]) 61 3 strictL.loads encLoad zLoad 5 (by kernel_rfl) (by kernel_rfl) (goes_of (by kernel_rfl)) (by kernel_rfl) (by kernel_rfl) (fun _ => rfl) ((fun nV w h => strictL_calls   w  )) ?_))
  refine CALL 44 [.s (.int .i64 0), .s (.int .i64 0)] (.g [.int .i64 (placeL 0 0).load, .int .i64 (placeL 0 0).lane]) [] (by kernel_rfl) (goes_of (by kernel_rfl)) (by kernel_rfl) (by kernel_rfl) (fun _ nV w h => placeL_calls  0 0 w  ) ?_
  refine LIT tt_ok (by kernel_rfl) ?_
  refine LITSL 6 65 1 2 [.int .i64 (placeL 0 0).load, .int .i64 (placeL 0 0).lane] [(placeL 0 0)] encPlace zPlace (by kernel_rfl) rfl (fun _ => rfl) (fun n => rfl) ?_
  refine CALL 31 [.g [.ref 5, .int .i64 strictL.rule, .int .i64 strictL.most], .s (.ref 6)] (.t [(false, [.int .i64 (levelA strictL ([(placeL 0 0)])).1]), (false, [.int .i64 (levelA strictL ([(placeL 0 0)])).2])]) [] (by kernel_rfl) (goes_of (by kernel_rfl)) (by kernel_rfl) (by kernel_rfl) (fun _ nV w h => levelA_calls (nV 5) (nV 6) strictL ([(placeL 0 0)]) w (h.reads (id := 5) (kd := .own) (e := 61) (by kernel_rfl)) (h.reads (id := 6) (kd := .own) (e := 65) (by kernel_rfl)) (h.ents (0, .pf NobodyAt (· = 1)) (fnd_mem (by kernel_rfl))).1 (h.ents (1, .pf LanesAt (· = 0)) (fnd_mem (by kernel_rfl))).1 ) ?_
  refine WPO_all tt_ok (by kernel_rfl) ?_
  refine WP_seq (WP_region (CALLO 63 [] (.g [.ref 7, .int .i64 ownL.rule, .int .i64 ownL.most]) 61 3 ownL.loads encLoad zLoad 7 (by kernel_rfl) (by kernel_rfl) (goes_of (by kernel_rfl)) (by kernel_rfl) (by kernel_rfl) (fun _ => rfl) ((fun nV w h => ownL_calls   w  )) ?_))
  refine CALL 44 [.s (.int .i64 0), .s (.int .i64 0)] (.g [.int .i64 (placeL 0 0).load, .int .i64 (placeL 0 0).lane]) [] (by kernel_rfl) (goes_of (by kernel_rfl)) (by kernel_rfl) (by kernel_rfl) (fun _ nV w h => placeL_calls  0 0 w  ) ?_
  refine CALL 44 [.s (.int .i64 1), .s (.int .i64 0)] (.g [.int .i64 (placeL 1 0).load, .int .i64 (placeL 1 0).lane]) [] (by kernel_rfl) (goes_of (by kernel_rfl)) (by kernel_rfl) (by kernel_rfl) (fun _ nV w h => placeL_calls  1 0 w  ) ?_
  refine LIT tt_ok (by kernel_rfl) ?_
  refine LITSL 8 65 2 2 [.int .i64 (placeL 0 0).load, .int .i64 (placeL 0 0).lane, .int .i64 (placeL 1 0).load, .int .i64 (placeL 1 0).lane] [(placeL 0 0), (placeL 1 0)] encPlace zPlace (by kernel_rfl) rfl (fun _ => rfl) (fun n => rfl) ?_
  refine CALL 32 [.g [.ref 7, .int .i64 ownL.rule, .int .i64 ownL.most], .s (.ref 8)] (.t [(false, [.int .i64 (tiltsA ownL ([(placeL 0 0), (placeL 1 0)])).1]), (false, [.int .i64 (tiltsA ownL ([(placeL 0 0), (placeL 1 0)])).2])]) [] (by kernel_rfl) (goes_of (by kernel_rfl)) (by kernel_rfl) (by kernel_rfl) (fun _ nV w h => tiltsA_calls (nV 7) (nV 8) ownL ([(placeL 0 0), (placeL 1 0)]) w (h.reads (id := 7) (kd := .own) (e := 61) (by kernel_rfl)) (h.reads (id := 8) (kd := .own) (e := 65) (by kernel_rfl)) (h.ents (0, .pf NobodyAt (· = 1)) (fnd_mem (by kernel_rfl))).1 (h.ents (1, .pf LanesAt (· = 0)) (fnd_mem (by kernel_rfl))).1 ) ?_
  refine WPO_all tt_ok (by kernel_rfl) ?_
  refine WP_seq (WP_region (CALLO 67 [] (.g [.ref 9, .int .i64 strictL.rule, .int .i64 strictL.most]) 61 3 strictL.loads encLoad zLoad 9 (by kernel_rfl) (by kernel_rfl) (goes_of (by kernel_rfl)) (by kernel_rfl) (by kernel_rfl) (fun _ => rfl) ((fun nV w h => strictL_calls   w  )) ?_))
  refine LIT tt_ok (by kernel_rfl) ?_
  refine LITSL 10 3 2 1 [.int .i64 0, .int .i64 1] [0, 1] encI 0 (by kernel_rfl) rfl (fun _ => rfl) (fun n => rfl) ?_
  refine CALLR 36 [.g [.ref 9, .int .i64 strictL.rule, .int .i64 strictL.most], .s (.ref 10)] (.t [(false, [.ref 11]), (false, [.int .i64 (stowA strictL ([0, 1])).2])]) 65 2 (stowA strictL ([0, 1])).1 encPlace zPlace 11 (by kernel_rfl) (by kernel_rfl) (goes_of (by kernel_rfl)) (by kernel_rfl) (by kernel_rfl) (by decide) (fun _ => rfl) (fun nV w h => (stowA_calls (nV 9) (nV 10) strictL ([0, 1]) w (h.reads (id := 9) (kd := .own) (e := 61) (by kernel_rfl)) (h.reads (id := 10) (kd := .own) (e := 3) (by kernel_rfl)) (h.ents (0, .pf NobodyAt (· = 1)) (fnd_mem (by kernel_rfl))).1 (h.ents (1, .pf LanesAt (· = 0)) (fnd_mem (by kernel_rfl))).1 ).mono fun e w' h1 => weak_fresh h1) ?_
  refine WPO_all tt_ok (by kernel_rfl) ?_
  refine WP_seq (WP_region (CALLO 63 [] (.g [.ref 12, .int .i64 ownL.rule, .int .i64 ownL.most]) 61 3 ownL.loads encLoad zLoad 12 (by kernel_rfl) (by kernel_rfl) (goes_of (by kernel_rfl)) (by kernel_rfl) (by kernel_rfl) (fun _ => rfl) ((fun nV w h => ownL_calls   w  )) ?_))
  refine CALLR 45 [.g [.ref 12, .int .i64 ownL.rule, .int .i64 ownL.most]] (.t [(false, [.ref 13]), (false, [.int .i64 (mostA ownL).2])]) 3 1 (mostA ownL).1 encI 0 13 (by kernel_rfl) (by kernel_rfl) (goes_of (by kernel_rfl)) (by kernel_rfl) (by kernel_rfl) (by decide) (fun _ => rfl) (fun nV w h => (mostA_calls (nV 12) ownL w (h.reads (id := 12) (kd := .own) (e := 61) (by kernel_rfl)) (h.ents (0, .pf NobodyAt (· = 1)) (fnd_mem (by kernel_rfl))).1 (h.ents (1, .pf LanesAt (· = 0)) (fnd_mem (by kernel_rfl))).1 ).mono fun e w' h1 => weak_fresh h1) ?_
  refine WPO_all tt_ok (by kernel_rfl) ?_
  refine WP_seq (WP_seq (WP_drawH [] (by kernel_rfl) (by kernel_rfl) ?_))
  refine H_run tt_ok [0, 1, 2, 3, 4, 5, 6, 7, 8, 9, 10, 11, 12, 13, 14, 15, 16, 17, 18, 19] (f' := 25) (by kernel_rfl) (by kernel_rfl) (by kernel_rfl) ?_
  refine H_step 20 (by kernel_rfl) (by kernel_rfl) (fun hfz cx' hx1 hx2 => ?_)
  refine CALL 40 [.s (.int .i64 (-1)), .s (.int .i64 2)] (.g [.int .i64 (rangeF (-1) 2).lo, .int .i64 (rangeF (-1) 2).hi]) [((((((listA ownL bothL).2 != 0) || ((levelA strictL ([(placeL 0 0)])).2 != 0)) || ((tiltsA ownL ([(placeL 0 0), (placeL 1 0)])).2 != 0)) || ((stowA strictL ([0, 1])).2 != 0)) || ((mostA ownL).2 != 0), false)] (by kernel_rfl) (goes_of (by kernel_rfl)) (by kernel_rfl) (by kernel_rfl) (fun _ nV w h => rangeF_calls  (-1) 2 w  ) ?_
  refine WPO_end (by kernel_rfl) ⟨rfl, (hfz.fnds [13, 12, 11, 10, 9, 8, 7, 6, 5, 4, 3, 2, 0, 1] (by kernel_rfl) ⟨by kernel_rfl, by kernel_rfl, by kernel_rfl, by kernel_rfl, by kernel_rfl, by kernel_rfl, by kernel_rfl, by kernel_rfl, by kernel_rfl, by kernel_rfl, by kernel_rfl, by kernel_rfl, by kernel_rfl, by kernel_rfl, trivial⟩ (by kernel_rfl)), ?_⟩
  refine H_BIN 21 .neq 43 (.tmp 65) (.tmp 66) (.g [.int .i64 (listA ownL bothL).1.lo, .int .i64 (listA ownL bothL).1.hi]) (.g [.int .i64 (rangeF (-1) 2).lo, .int .i64 (rangeF (-1) 2).hi]) (.s (.bool (!((listA ownL bothL).1.lo == (rangeF (-1) 2).lo && (listA ownL bothL).1.hi == (rangeF (-1) 2).hi)))) [((((((listA ownL bothL).2 != 0) || ((levelA strictL ([(placeL 0 0)])).2 != 0)) || ((tiltsA ownL ([(placeL 0 0), (placeL 1 0)])).2 != 0)) || ((stowA strictL ([0, 1])).2 != 0)) || ((mostA ownL).2 != 0), false)] (by kernel_rfl) (by kernel_rfl) (by kernel_rfl) (fun _ _ => BinOk_pairN (by kernel_rfl) _ _ _ _) (by kernel_rfl) (by kernel_rfl) ?_
  refine H_run tt_ok [22, 23, 24, 25, 26, 27, 28, 29, 30, 31, 32] (f' := 12) (by kernel_rfl) (by kernel_rfl) (by kernel_rfl) ?_
  refine H_step 33 (by kernel_rfl) (by kernel_rfl) (fun hfz cx' hx1 hx2 => ?_)
  refine CALL 44 [.s (.int .i64 1), .s (.int .i64 0)] (.g [.int .i64 (placeL 1 0).load, .int .i64 (placeL 1 0).lane]) [(((((((((listA ownL bothL).2 != 0) || ((levelA strictL ([(placeL 0 0)])).2 != 0)) || ((tiltsA ownL ([(placeL 0 0), (placeL 1 0)])).2 != 0)) || ((stowA strictL ([0, 1])).2 != 0)) || ((mostA ownL).2 != 0)) || (!((listA ownL bothL).1.lo == (rangeF (-1) 2).lo && (listA ownL bothL).1.hi == (rangeF (-1) 2).hi))) || ((levelA strictL ([(placeL 0 0)])).1 != 1)) || ((tiltsA ownL ([(placeL 0 0), (placeL 1 0)])).1 != 1), false)] (by kernel_rfl) (goes_of (by kernel_rfl)) (by kernel_rfl) (by kernel_rfl) (fun _ nV w h => placeL_calls  1 0 w  ) ?_
  refine WPO_end (by kernel_rfl) ⟨rfl, (hfz.fnds [13, 12, 11, 10, 9, 8, 7, 6, 5, 4, 3, 2, 0, 1] (by kernel_rfl) ⟨by kernel_rfl, by kernel_rfl, by kernel_rfl, by kernel_rfl, by kernel_rfl, by kernel_rfl, by kernel_rfl, by kernel_rfl, by kernel_rfl, by kernel_rfl, by kernel_rfl, by kernel_rfl, by kernel_rfl, by kernel_rfl, trivial⟩ (by kernel_rfl)), ?_⟩
  refine H_step 34 (by kernel_rfl) (by kernel_rfl) (fun hfz cx' hx1 hx2 => ?_)
  refine CALL 44 [.s (.int .i64 0), .s (.int .i64 2)] (.g [.int .i64 (placeL 0 2).load, .int .i64 (placeL 0 2).lane]) [(((((((((listA ownL bothL).2 != 0) || ((levelA strictL ([(placeL 0 0)])).2 != 0)) || ((tiltsA ownL ([(placeL 0 0), (placeL 1 0)])).2 != 0)) || ((stowA strictL ([0, 1])).2 != 0)) || ((mostA ownL).2 != 0)) || (!((listA ownL bothL).1.lo == (rangeF (-1) 2).lo && (listA ownL bothL).1.hi == (rangeF (-1) 2).hi))) || ((levelA strictL ([(placeL 0 0)])).1 != 1)) || ((tiltsA ownL ([(placeL 0 0), (placeL 1 0)])).1 != 1), false)] (by kernel_rfl) (goes_of (by kernel_rfl)) (by kernel_rfl) (by kernel_rfl) (fun _ nV w h => placeL_calls  0 2 w  ) ?_
  refine WPO_end (by kernel_rfl) ⟨rfl, (hfz.fnds [13, 12, 11, 10, 9, 8, 7, 6, 5, 4, 3, 2, 0, 1] (by kernel_rfl) ⟨by kernel_rfl, by kernel_rfl, by kernel_rfl, by kernel_rfl, by kernel_rfl, by kernel_rfl, by kernel_rfl, by kernel_rfl, by kernel_rfl, by kernel_rfl, by kernel_rfl, by kernel_rfl, by kernel_rfl, by kernel_rfl, trivial⟩ (by kernel_rfl)), ?_⟩
  refine H_step 35 (by kernel_rfl) (by kernel_rfl) (fun hfz cx' hx1 hx2 => ?_)
  refine LITG tt_ok [(77, false)] (true && ((((((((((listA ownL bothL).2 != 0) || ((levelA strictL ([(placeL 0 0)])).2 != 0)) || ((tiltsA ownL ([(placeL 0 0), (placeL 1 0)])).2 != 0)) || ((stowA strictL ([0, 1])).2 != 0)) || ((mostA ownL).2 != 0)) || (!((listA ownL bothL).1.lo == (rangeF (-1) 2).lo && (listA ownL bothL).1.hi == (rangeF (-1) 2).hi))) || ((levelA strictL ([(placeL 0 0)])).1 != 1)) || ((tiltsA ownL ([(placeL 0 0), (placeL 1 0)])).1 != 1)) == false)) 65 2 2 [.int .i64 (placeL 1 0).load, .int .i64 (placeL 1 0).lane, .int .i64 (placeL 0 2).load, .int .i64 (placeL 0 2).lane] [(placeL 1 0), (placeL 0 2)] encPlace zPlace (by kernel_rfl) (by kernel_rfl) rfl (fun _ => rfl) (fun n => rfl) (by kernel_rfl) ?_
  refine WPO_end (by kernel_rfl) ⟨rfl, (hfz.fnds [13, 12, 11, 10, 9, 8, 7, 6, 5, 4, 3, 2, 0, 1] (by kernel_rfl) ⟨by kernel_rfl, by kernel_rfl, by kernel_rfl, by kernel_rfl, by kernel_rfl, by kernel_rfl, by kernel_rfl, by kernel_rfl, by kernel_rfl, by kernel_rfl, by kernel_rfl, by kernel_rfl, by kernel_rfl, by kernel_rfl, trivial⟩ (by kernel_rfl)), ?_⟩
  refine H_step 36 (by kernel_rfl) (by kernel_rfl) (fun hfz cx' hx1 hx2 => ?_)
  refine CALL 70 [.s (.ref 11), .s (.ref 14)] (.s (.bool (sameL (stowA strictL ([0, 1])).1 (bif (true && ((((((((((listA ownL bothL).2 != 0) || ((levelA strictL ([(placeL 0 0)])).2 != 0)) || ((tiltsA ownL ([(placeL 0 0), (placeL 1 0)])).2 != 0)) || ((stowA strictL ([0, 1])).2 != 0)) || ((mostA ownL).2 != 0)) || (!((listA ownL bothL).1.lo == (rangeF (-1) 2).lo && (listA ownL bothL).1.hi == (rangeF (-1) 2).hi))) || ((levelA strictL ([(placeL 0 0)])).1 != 1)) || ((tiltsA ownL ([(placeL 0 0), (placeL 1 0)])).1 != 1)) == false)) then [(placeL 1 0), (placeL 0 2)] else [])))) [(((((((((listA ownL bothL).2 != 0) || ((levelA strictL ([(placeL 0 0)])).2 != 0)) || ((tiltsA ownL ([(placeL 0 0), (placeL 1 0)])).2 != 0)) || ((stowA strictL ([0, 1])).2 != 0)) || ((mostA ownL).2 != 0)) || (!((listA ownL bothL).1.lo == (rangeF (-1) 2).lo && (listA ownL bothL).1.hi == (rangeF (-1) 2).hi))) || ((levelA strictL ([(placeL 0 0)])).1 != 1)) || ((tiltsA ownL ([(placeL 0 0), (placeL 1 0)])).1 != 1), false)] (by kernel_rfl) (goes_of (by kernel_rfl)) (by kernel_rfl) (by kernel_rfl) (fun _ nV w h => sameL_calls (nV 11) (nV 14) (stowA strictL ([0, 1])).1 (bif (true && ((((((((((listA ownL bothL).2 != 0) || ((levelA strictL ([(placeL 0 0)])).2 != 0)) || ((tiltsA ownL ([(placeL 0 0), (placeL 1 0)])).2 != 0)) || ((stowA strictL ([0, 1])).2 != 0)) || ((mostA ownL).2 != 0)) || (!((listA ownL bothL).1.lo == (rangeF (-1) 2).lo && (listA ownL bothL).1.hi == (rangeF (-1) 2).hi))) || ((levelA strictL ([(placeL 0 0)])).1 != 1)) || ((tiltsA ownL ([(placeL 0 0), (placeL 1 0)])).1 != 1)) == false)) then [(placeL 1 0), (placeL 0 2)] else []) w (h.reads (id := 11) (kd := .ro) (e := 65) (by kernel_rfl)) (h.reads (id := 14) (kd := .own) (e := 65) (by kernel_rfl)) ) ?_
  refine WPO_end (by kernel_rfl) ⟨rfl, (hfz.fnds [13, 12, 11, 10, 9, 8, 7, 6, 5, 4, 3, 2, 0, 1] (by kernel_rfl) ⟨by kernel_rfl, by kernel_rfl, by kernel_rfl, by kernel_rfl, by kernel_rfl, by kernel_rfl, by kernel_rfl, by kernel_rfl, by kernel_rfl, by kernel_rfl, by kernel_rfl, by kernel_rfl, by kernel_rfl, by kernel_rfl, trivial⟩ (by kernel_rfl)), ?_⟩
  refine H_run tt_ok [37, 38, 39, 40] (f' := 4) (by kernel_rfl) (by kernel_rfl) (by kernel_rfl) ?_
  refine H_step 41 (by kernel_rfl) (by kernel_rfl) (fun hfz cx' hx1 hx2 => ?_)
  refine LITG tt_ok [(85, false)] (true && (((((((((((listA ownL bothL).2 != 0) || ((levelA strictL ([(placeL 0 0)])).2 != 0)) || ((tiltsA ownL ([(placeL 0 0), (placeL 1 0)])).2 != 0)) || ((stowA strictL ([0, 1])).2 != 0)) || ((mostA ownL).2 != 0)) || (!((listA ownL bothL).1.lo == (rangeF (-1) 2).lo && (listA ownL bothL).1.hi == (rangeF (-1) 2).hi))) || ((levelA strictL ([(placeL 0 0)])).1 != 1)) || ((tiltsA ownL ([(placeL 0 0), (placeL 1 0)])).1 != 1)) || (!(sameL (stowA strictL ([0, 1])).1 (bif (true && ((((((((((listA ownL bothL).2 != 0) || ((levelA strictL ([(placeL 0 0)])).2 != 0)) || ((tiltsA ownL ([(placeL 0 0), (placeL 1 0)])).2 != 0)) || ((stowA strictL ([0, 1])).2 != 0)) || ((mostA ownL).2 != 0)) || (!((listA ownL bothL).1.lo == (rangeF (-1) 2).lo && (listA ownL bothL).1.hi == (rangeF (-1) 2).hi))) || ((levelA strictL ([(placeL 0 0)])).1 != 1)) || ((tiltsA ownL ([(placeL 0 0), (placeL 1 0)])).1 != 1)) == false)) then [(placeL 1 0), (placeL 0 2)] else [])))) == false)) 3 3 1 [.int .i64 0, .int .i64 1, .int .i64 2] [0, 1, 2] encI 0 (by kernel_rfl) (by kernel_rfl) rfl (fun _ => rfl) (fun n => rfl) (by kernel_rfl) ?_
  refine WPO_end (by kernel_rfl) ⟨rfl, (hfz.fnds [13, 12, 11, 10, 9, 8, 7, 6, 5, 4, 3, 2, 0, 1] (by kernel_rfl) ⟨by kernel_rfl, by kernel_rfl, by kernel_rfl, by kernel_rfl, by kernel_rfl, by kernel_rfl, by kernel_rfl, by kernel_rfl, by kernel_rfl, by kernel_rfl, by kernel_rfl, by kernel_rfl, by kernel_rfl, by kernel_rfl, trivial⟩ (by kernel_rfl)), ?_⟩
  refine H_step 42 (by kernel_rfl) (by kernel_rfl) (fun hfz cx' hx1 hx2 => ?_)
  refine CALL 24 [.s (.ref 13), .s (.ref 15)] (.s (.bool (alikeF (mostA ownL).1 (bif (true && (((((((((((listA ownL bothL).2 != 0) || ((levelA strictL ([(placeL 0 0)])).2 != 0)) || ((tiltsA ownL ([(placeL 0 0), (placeL 1 0)])).2 != 0)) || ((stowA strictL ([0, 1])).2 != 0)) || ((mostA ownL).2 != 0)) || (!((listA ownL bothL).1.lo == (rangeF (-1) 2).lo && (listA ownL bothL).1.hi == (rangeF (-1) 2).hi))) || ((levelA strictL ([(placeL 0 0)])).1 != 1)) || ((tiltsA ownL ([(placeL 0 0), (placeL 1 0)])).1 != 1)) || (!(sameL (stowA strictL ([0, 1])).1 (bif (true && ((((((((((listA ownL bothL).2 != 0) || ((levelA strictL ([(placeL 0 0)])).2 != 0)) || ((tiltsA ownL ([(placeL 0 0), (placeL 1 0)])).2 != 0)) || ((stowA strictL ([0, 1])).2 != 0)) || ((mostA ownL).2 != 0)) || (!((listA ownL bothL).1.lo == (rangeF (-1) 2).lo && (listA ownL bothL).1.hi == (rangeF (-1) 2).hi))) || ((levelA strictL ([(placeL 0 0)])).1 != 1)) || ((tiltsA ownL ([(placeL 0 0), (placeL 1 0)])).1 != 1)) == false)) then [(placeL 1 0), (placeL 0 2)] else [])))) == false)) then [0, 1, 2] else [])))) [((((((((((listA ownL bothL).2 != 0) || ((levelA strictL ([(placeL 0 0)])).2 != 0)) || ((tiltsA ownL ([(placeL 0 0), (placeL 1 0)])).2 != 0)) || ((stowA strictL ([0, 1])).2 != 0)) || ((mostA ownL).2 != 0)) || (!((listA ownL bothL).1.lo == (rangeF (-1) 2).lo && (listA ownL bothL).1.hi == (rangeF (-1) 2).hi))) || ((levelA strictL ([(placeL 0 0)])).1 != 1)) || ((tiltsA ownL ([(placeL 0 0), (placeL 1 0)])).1 != 1)) || (!(sameL (stowA strictL ([0, 1])).1 (bif (true && ((((((((((listA ownL bothL).2 != 0) || ((levelA strictL ([(placeL 0 0)])).2 != 0)) || ((tiltsA ownL ([(placeL 0 0), (placeL 1 0)])).2 != 0)) || ((stowA strictL ([0, 1])).2 != 0)) || ((mostA ownL).2 != 0)) || (!((listA ownL bothL).1.lo == (rangeF (-1) 2).lo && (listA ownL bothL).1.hi == (rangeF (-1) 2).hi))) || ((levelA strictL ([(placeL 0 0)])).1 != 1)) || ((tiltsA ownL ([(placeL 0 0), (placeL 1 0)])).1 != 1)) == false)) then [(placeL 1 0), (placeL 0 2)] else []))), false)] (by kernel_rfl) (goes_of (by kernel_rfl)) (by kernel_rfl) (by kernel_rfl) (fun _ nV w h => alikeF_calls (nV 13) (nV 15) (mostA ownL).1 (bif (true && (((((((((((listA ownL bothL).2 != 0) || ((levelA strictL ([(placeL 0 0)])).2 != 0)) || ((tiltsA ownL ([(placeL 0 0), (placeL 1 0)])).2 != 0)) || ((stowA strictL ([0, 1])).2 != 0)) || ((mostA ownL).2 != 0)) || (!((listA ownL bothL).1.lo == (rangeF (-1) 2).lo && (listA ownL bothL).1.hi == (rangeF (-1) 2).hi))) || ((levelA strictL ([(placeL 0 0)])).1 != 1)) || ((tiltsA ownL ([(placeL 0 0), (placeL 1 0)])).1 != 1)) || (!(sameL (stowA strictL ([0, 1])).1 (bif (true && ((((((((((listA ownL bothL).2 != 0) || ((levelA strictL ([(placeL 0 0)])).2 != 0)) || ((tiltsA ownL ([(placeL 0 0), (placeL 1 0)])).2 != 0)) || ((stowA strictL ([0, 1])).2 != 0)) || ((mostA ownL).2 != 0)) || (!((listA ownL bothL).1.lo == (rangeF (-1) 2).lo && (listA ownL bothL).1.hi == (rangeF (-1) 2).hi))) || ((levelA strictL ([(placeL 0 0)])).1 != 1)) || ((tiltsA ownL ([(placeL 0 0), (placeL 1 0)])).1 != 1)) == false)) then [(placeL 1 0), (placeL 0 2)] else [])))) == false)) then [0, 1, 2] else []) w (h.reads (id := 13) (kd := .ro) (e := 3) (by kernel_rfl)) (h.reads (id := 15) (kd := .own) (e := 3) (by kernel_rfl)) ) ?_
  refine WPO_end (by kernel_rfl) ⟨rfl, (hfz.fnds [13, 12, 11, 10, 9, 8, 7, 6, 5, 4, 3, 2, 0, 1] (by kernel_rfl) ⟨by kernel_rfl, by kernel_rfl, by kernel_rfl, by kernel_rfl, by kernel_rfl, by kernel_rfl, by kernel_rfl, by kernel_rfl, by kernel_rfl, by kernel_rfl, by kernel_rfl, by kernel_rfl, by kernel_rfl, by kernel_rfl, trivial⟩ (by kernel_rfl)), ?_⟩
  refine H_run tt_ok [43, 44] (f' := 0) (by kernel_rfl) (by kernel_rfl) (by kernel_rfl) ?_
  refine H_done (by kernel_rfl) ?_
  refine WP_cond (((((((((((listA ownL bothL).2 != 0) || ((levelA strictL ([(placeL 0 0)])).2 != 0)) || ((tiltsA ownL ([(placeL 0 0), (placeL 1 0)])).2 != 0)) || ((stowA strictL ([0, 1])).2 != 0)) || ((mostA ownL).2 != 0)) || (!((listA ownL bothL).1.lo == (rangeF (-1) 2).lo && (listA ownL bothL).1.hi == (rangeF (-1) 2).hi))) || ((levelA strictL ([(placeL 0 0)])).1 != 1)) || ((tiltsA ownL ([(placeL 0 0), (placeL 1 0)])).1 != 1)) || (!(sameL (stowA strictL ([0, 1])).1 (bif (true && ((((((((((listA ownL bothL).2 != 0) || ((levelA strictL ([(placeL 0 0)])).2 != 0)) || ((tiltsA ownL ([(placeL 0 0), (placeL 1 0)])).2 != 0)) || ((stowA strictL ([0, 1])).2 != 0)) || ((mostA ownL).2 != 0)) || (!((listA ownL bothL).1.lo == (rangeF (-1) 2).lo && (listA ownL bothL).1.hi == (rangeF (-1) 2).hi))) || ((levelA strictL ([(placeL 0 0)])).1 != 1)) || ((tiltsA ownL ([(placeL 0 0), (placeL 1 0)])).1 != 1)) == false)) then [(placeL 1 0), (placeL 0 2)] else [])))) || (!(alikeF (mostA ownL).1 (bif (true && (((((((((((listA ownL bothL).2 != 0) || ((levelA strictL ([(placeL 0 0)])).2 != 0)) || ((tiltsA ownL ([(placeL 0 0), (placeL 1 0)])).2 != 0)) || ((stowA strictL ([0, 1])).2 != 0)) || ((mostA ownL).2 != 0)) || (!((listA ownL bothL).1.lo == (rangeF (-1) 2).lo && (listA ownL bothL).1.hi == (rangeF (-1) 2).hi))) || ((levelA strictL ([(placeL 0 0)])).1 != 1)) || ((tiltsA ownL ([(placeL 0 0), (placeL 1 0)])).1 != 1)) || (!(sameL (stowA strictL ([0, 1])).1 (bif (true && ((((((((((listA ownL bothL).2 != 0) || ((levelA strictL ([(placeL 0 0)])).2 != 0)) || ((tiltsA ownL ([(placeL 0 0), (placeL 1 0)])).2 != 0)) || ((stowA strictL ([0, 1])).2 != 0)) || ((mostA ownL).2 != 0)) || (!((listA ownL bothL).1.lo == (rangeF (-1) 2).lo && (listA ownL bothL).1.hi == (rangeF (-1) 2).hi))) || ((levelA strictL ([(placeL 0 0)])).1 != 1)) || ((tiltsA ownL ([(placeL 0 0), (placeL 1 0)])).1 != 1)) == false)) then [(placeL 1 0), (placeL 0 2)] else [])))) == false)) then [0, 1, 2] else [])))) (by kernel_rfl) (fun hc2 => ?_) (fun hc2 => ?_)
  · have hc2' := hc2; try simp only [Bool.and_eq_true, Bool.or_eq_true, Bool.and_eq_false_iff, Bool.or_eq_false_iff, Bool.not_eq_true', Bool.not_eq_false', decide_eq_true_eq, decide_eq_false_iff_not, beq_iff_eq, beq_eq_false_iff_ne, bne_iff_ne, bne_eq_false_iff_eq, ne_eq] at hc2'
    refine WP_seq (WP_region (WPO_all tt_ok (by kernel_rfl) ?_))
    refine WP_ret ?_
    exact ⟨.s (.bool false), by kernel_rfl, fun nV w' h => ⟨by rw [show stowedL = false from by unfold stowedL; simp only [hc2, cond_true, cond_false]]; rfl, h.bel⟩⟩
  have hc2' := hc2; try simp only [Bool.and_eq_true, Bool.or_eq_true, Bool.and_eq_false_iff, Bool.or_eq_false_iff, Bool.not_eq_true', Bool.not_eq_false', decide_eq_true_eq, decide_eq_false_iff_not, beq_iff_eq, beq_eq_false_iff_ne, bne_iff_ne, bne_eq_false_iff_eq, ne_eq] at hc2'
  refine WP_skip ?_
  refine WP_seq (WP_region (CALLO 71 [] (.g [.ref 16, .int .i64 lightL.rule, .int .i64 lightL.most]) 61 3 lightL.loads encLoad zLoad 16 (by kernel_rfl) (by kernel_rfl) (goes_of (by kernel_rfl)) (by kernel_rfl) (by kernel_rfl) (fun _ => rfl) ((fun nV w h => lightL_calls   w  )) ?_))
  refine CALLR 46 [.g [.ref 16, .int .i64 lightL.rule, .int .i64 lightL.most]] (.t [(false, [.ref 17]), (false, [.int .i64 (fewestA lightL).2])]) 3 1 (fewestA lightL).1 encI 0 17 (by kernel_rfl) (by kernel_rfl) (goes_of (by kernel_rfl)) (by kernel_rfl) (by kernel_rfl) (by decide) (fun _ => rfl) (fun nV w h => (fewestA_calls (nV 16) lightL w (h.reads (id := 16) (kd := .own) (e := 61) (by kernel_rfl)) (h.ents (0, .pf NobodyAt (· = 1)) (fnd_mem (by kernel_rfl))).1 (h.ents (1, .pf LanesAt (· = 0)) (fnd_mem (by kernel_rfl))).1 ).mono fun e w' h1 => weak_fresh h1) ?_
  refine WPO_all tt_ok (by kernel_rfl) ?_
  refine WP_seq (WP_region (CALLO 69 [] (.g [.ref 18, .int .i64 wideL.rule, .int .i64 wideL.most]) 61 3 wideL.loads encLoad zLoad 18 (by kernel_rfl) (by kernel_rfl) (goes_of (by kernel_rfl)) (by kernel_rfl) (by kernel_rfl) (fun _ => rfl) ((fun nV w h => wideL_calls   w  )) ?_))
  refine CALLR 47 [.g [.ref 18, .int .i64 wideL.rule, .int .i64 wideL.most]] (.t [(false, [.ref 19]), (false, [.int .i64 (neverA wideL).2])]) 3 1 (neverA wideL).1 encI 0 19 (by kernel_rfl) (by kernel_rfl) (goes_of (by kernel_rfl)) (by kernel_rfl) (by kernel_rfl) (by decide) (fun _ => rfl) (fun nV w h => (neverA_calls (nV 18) wideL w (h.reads (id := 18) (kd := .own) (e := 61) (by kernel_rfl)) (h.ents (0, .pf NobodyAt (· = 1)) (fnd_mem (by kernel_rfl))).1 (h.ents (1, .pf LanesAt (· = 0)) (fnd_mem (by kernel_rfl))).1 ).mono fun e w' h1 => weak_fresh h1) ?_
  refine WPO_all tt_ok (by kernel_rfl) ?_
  refine WP_seq (WP_region (CALLO 63 [] (.g [.ref 20, .int .i64 ownL.rule, .int .i64 ownL.most]) 61 3 ownL.loads encLoad zLoad 20 (by kernel_rfl) (by kernel_rfl) (goes_of (by kernel_rfl)) (by kernel_rfl) (by kernel_rfl) (fun _ => rfl) ((fun nV w h => ownL_calls   w  )) ?_))
  refine CALL 48 [.g [.ref 20, .int .i64 ownL.rule, .int .i64 ownL.most]] (.t [(false, [.int .i64 (weighA ownL).1]), (false, [.int .i64 (weighA ownL).2])]) [] (by kernel_rfl) (goes_of (by kernel_rfl)) (by kernel_rfl) (by kernel_rfl) (fun _ nV w h => weighA_calls (nV 20) ownL w (h.reads (id := 20) (kd := .own) (e := 61) (by kernel_rfl)) (h.ents (0, .pf NobodyAt (· = 1)) (fnd_mem (by kernel_rfl))).1 (h.ents (1, .pf LanesAt (· = 0)) (fnd_mem (by kernel_rfl))).1 ) ?_
  refine WPO_all tt_ok (by kernel_rfl) ?_
  refine WP_seq (WP_region (WPO_run tt_ok 12 (by kernel_rfl) ?_))
  refine LITG tt_ok [(116, true)] (true && (((((fewestA lightL).2 == 0) && ((neverA wideL).2 == 0)) && ((weighA ownL).2 == 0)) == true)) 3 4 1 [.int .i64 0, .int .i64 0, .int .i64 1, .int .i64 1] [0, 0, 1, 1] encI 0 (by kernel_rfl) (by kernel_rfl) rfl (fun _ => rfl) (fun n => rfl) (by kernel_rfl) ?_
  refine CALL 24 [.s (.ref 17), .s (.ref 21)] (.s (.bool (alikeF (fewestA lightL).1 (bif (true && (((((fewestA lightL).2 == 0) && ((neverA wideL).2 == 0)) && ((weighA ownL).2 == 0)) == true)) then [0, 0, 1, 1] else [])))) [((((fewestA lightL).2 == 0) && ((neverA wideL).2 == 0)) && ((weighA ownL).2 == 0), true)] (by kernel_rfl) (goes_of (by kernel_rfl)) (by kernel_rfl) (by kernel_rfl) (fun _ nV w h => alikeF_calls (nV 17) (nV 21) (fewestA lightL).1 (bif (true && (((((fewestA lightL).2 == 0) && ((neverA wideL).2 == 0)) && ((weighA ownL).2 == 0)) == true)) then [0, 0, 1, 1] else []) w (h.reads (id := 17) (kd := .ro) (e := 3) (by kernel_rfl)) (h.reads (id := 21) (kd := .own) (e := 3) (by kernel_rfl)) ) ?_
  refine WPO_run tt_ok 3 (by kernel_rfl) ?_
  refine LITG tt_ok [(121, true)] (true && ((((((fewestA lightL).2 == 0) && ((neverA wideL).2 == 0)) && ((weighA ownL).2 == 0)) && (alikeF (fewestA lightL).1 (bif (true && (((((fewestA lightL).2 == 0) && ((neverA wideL).2 == 0)) && ((weighA ownL).2 == 0)) == true)) then [0, 0, 1, 1] else []))) == true)) 3 1 1 [.int .i64 4] [4] encI 0 (by kernel_rfl) (by kernel_rfl) rfl (fun _ => rfl) (fun n => rfl) (by kernel_rfl) ?_
  refine CALL 24 [.s (.ref 19), .s (.ref 22)] (.s (.bool (alikeF (neverA wideL).1 (bif (true && ((((((fewestA lightL).2 == 0) && ((neverA wideL).2 == 0)) && ((weighA ownL).2 == 0)) && (alikeF (fewestA lightL).1 (bif (true && (((((fewestA lightL).2 == 0) && ((neverA wideL).2 == 0)) && ((weighA ownL).2 == 0)) == true)) then [0, 0, 1, 1] else []))) == true)) then [4] else [])))) [(((((fewestA lightL).2 == 0) && ((neverA wideL).2 == 0)) && ((weighA ownL).2 == 0)) && (alikeF (fewestA lightL).1 (bif (true && (((((fewestA lightL).2 == 0) && ((neverA wideL).2 == 0)) && ((weighA ownL).2 == 0)) == true)) then [0, 0, 1, 1] else [])), true)] (by kernel_rfl) (goes_of (by kernel_rfl)) (by kernel_rfl) (by kernel_rfl) (fun _ nV w h => alikeF_calls (nV 19) (nV 22) (neverA wideL).1 (bif (true && ((((((fewestA lightL).2 == 0) && ((neverA wideL).2 == 0)) && ((weighA ownL).2 == 0)) && (alikeF (fewestA lightL).1 (bif (true && (((((fewestA lightL).2 == 0) && ((neverA wideL).2 == 0)) && ((weighA ownL).2 == 0)) == true)) then [0, 0, 1, 1] else []))) == true)) then [4] else []) w (h.reads (id := 19) (kd := .ro) (e := 3) (by kernel_rfl)) (h.reads (id := 22) (kd := .own) (e := 3) (by kernel_rfl)) ) ?_
  refine WPO_all tt_ok (by kernel_rfl) ?_
  refine WP_ret ?_
  exact ⟨.s (.bool (((((((fewestA lightL).2 == 0) && ((neverA wideL).2 == 0)) && ((weighA ownL).2 == 0)) && (alikeF (fewestA lightL).1 (bif (true && (((((fewestA lightL).2 == 0) && ((neverA wideL).2 == 0)) && ((weighA ownL).2 == 0)) == true)) then [0, 0, 1, 1] else []))) && (alikeF (neverA wideL).1 (bif (true && ((((((fewestA lightL).2 == 0) && ((neverA wideL).2 == 0)) && ((weighA ownL).2 == 0)) && (alikeF (fewestA lightL).1 (bif (true && (((((fewestA lightL).2 == 0) && ((neverA wideL).2 == 0)) && ((weighA ownL).2 == 0)) == true)) then [0, 0, 1, 1] else []))) == true)) then [4] else []))) && ((weighA ownL).1 == 0))), by kernel_rfl, fun nV w' h => ⟨by rw [show stowedL = (((((((fewestA lightL).2 == 0) && ((neverA wideL).2 == 0)) && ((weighA ownL).2 == 0)) && (alikeF (fewestA lightL).1 (bif (true && (((((fewestA lightL).2 == 0) && ((neverA wideL).2 == 0)) && ((weighA ownL).2 == 0)) == true)) then [0, 0, 1, 1] else []))) && (alikeF (neverA wideL).1 (bif (true && ((((((fewestA lightL).2 == 0) && ((neverA wideL).2 == 0)) && ((weighA ownL).2 == 0)) && (alikeF (fewestA lightL).1 (bif (true && (((((fewestA lightL).2 == 0) && ((neverA wideL).2 == 0)) && ((weighA ownL).2 == 0)) == true)) then [0, 0, 1, 1] else []))) == true)) then [4] else []))) && ((weighA ownL).1 == 0)) from by unfold stowedL; simp only [hc2, cond_true, cond_false]]; rfl, h.bel⟩⟩
theorem stowedL_true : stowedL = true := by kernel_rfl
end Go.Proofs.YthfnedbpmdkdjaaDoor.D
namespace Go.Proofs.YthfnedbpmdkdjaaDoor.D
open Go Go.RowKit Go.Proofs.YthfnedbpmdkdjaaDoor.Eng Go.Proofs.YthfnedbpmdkdjaaDoor.Cm
set_option linter.unusedVariables false
set_option linter.unusedSimpArgs false
set_option linter.unusedSectionVars false
def soundL_c1 (b : DBook) (k1 : Nat) : Bool → Bool := fun v1_1 => v1_1 && (decide ((k1 : Int) < (b.loads.length : Int)))
def soundL_b1 (b : DBook) (k1 : Nat) : Bool → Bd Bool Bool := fun v1_1 => .go ((validF (b.loads.getD k1 zLoad).w 1 60) && (insideF (b.loads.getD k1 zLoad).lanes 1 7))
def soundL (b : DBook) : Bool :=
  (match loopR (soundL_c1 b) (soundL_b1 b) b.loads.length 0 (((((checkD b) == 0) && (insideF (b.loads.length : Int) 1 5)) && (insideF b.rule 0 30)) && (insideF b.most 1 200)) with | .brk u1_0 => u1_0 | .ret r => r)
theorem soundL_calls (g0 : Value) (b : DBook) (w : World) (r0 : Reads w g0 3 b.loads encLoad zLoad)  : Calls Tryd.prog 26 #[.agg #[g0, iv b.rule, iv b.most]] w fun e w' => e = .returned (.bool (soundL b)) ∧ Below w.heap.size w w' := by
  refine calls_of_WP (cx := cx0 w (vn [g0]) 1) (n := vn [g0]) (vs := [.g [.ref 0, .int .i64 b.rule, .int .i64 b.most]]) (hp := [(0, .sl .ro 61 3 b.loads encLoad zLoad)]) (nx := 1) tt_ok Tryd.func26 rfl rfl rfl (by kernel_rfl) (HSat_args (vn_one (by simp [r0.one])) (Nat.le_refl _) ⟨⟨⟨fun _ => rfl, by decide, r0⟩, (Nat.le_of_ble_eq_true rfl)⟩, trivial⟩) (vsOk (by kernel_rfl)) ?_
  have hl0 := Reads.len r0
  refine WP_seq (WP_region (WPO_all tt_ok (by kernel_rfl) ?_))
  refine WP_seq (WP_region (WPO_run tt_ok 1 (by kernel_rfl) ?_))
  refine CALL 66 [.g [.ref 0, .int .i64 b.rule, .int .i64 b.most]] (.s (.int .i64 (checkD b))) [] (by kernel_rfl) (goes_of (by kernel_rfl)) (by kernel_rfl) (by kernel_rfl) (fun hG nV w h => checkD_calls (nV 0) b w (h.reads (id := 0) (kd := .ro) (e := 61) (by kernel_rfl)) ) ?_
  refine WPO_run tt_ok 5 (by kernel_rfl) ?_
  refine CALL 34 [.s (.int .i64 (b.loads.length : Int)), .s (.int .i64 1), .s (.int .i64 5)] (.s (.bool (insideF (b.loads.length : Int) 1 5))) [((checkD b) == 0, true)] (by kernel_rfl) (goes_of (by kernel_rfl)) (by kernel_rfl) (by kernel_rfl) (fun hG nV w h => insideF_calls  (b.loads.length : Int) 1 5 w  ) ?_
  refine WPO_run tt_ok 4 (by kernel_rfl) ?_
  refine CALL 34 [.s (.int .i64 b.rule), .s (.int .i64 0), .s (.int .i64 30)] (.s (.bool (insideF b.rule 0 30))) [(((checkD b) == 0) && (insideF (b.loads.length : Int) 1 5), true)] (by kernel_rfl) (goes_of (by kernel_rfl)) (by kernel_rfl) (by kernel_rfl) (fun hG nV w h => insideF_calls  b.rule 0 30 w  ) ?_
  refine WPO_run tt_ok 4 (by kernel_rfl) ?_
  refine CALL 34 [.s (.int .i64 b.most), .s (.int .i64 1), .s (.int .i64 200)] (.s (.bool (insideF b.most 1 200))) [((((checkD b) == 0) && (insideF (b.loads.length : Int) 1 5)) && (insideF b.rule 0 30), true)] (by kernel_rfl) (goes_of (by kernel_rfl)) (by kernel_rfl) (by kernel_rfl) (fun hG nV w h => insideF_calls  b.most 1 200 w  ) ?_
  refine WPO_all tt_ok (by kernel_rfl) ?_
  refine WP_seq (WP_seq (WP_region (WPO_all tt_ok (by kernel_rfl) ?_)))
  refine WP_loopA (ρ := Bool) (soundL_c1 b) (soundL_b1 b) b.loads.length (((((checkD b) == 0) && (insideF (b.loads.length : Int) 1 5)) && (insideF b.rule 0 30)) && (insideF b.most 1 200)) (fun k : Nat => (k : Int)) (fun (ci : Int) (zz : Bool) => ⟨51, [(4, [], .s (.int .i64 ci)), (3, [], .s (.bool zz)), (1, [], .s (.p 1 0))], [(1, .box 24 [.ref 0, .int .i64 b.rule, .int .i64 b.most]), (0, .sl .ro 61 3 b.loads encLoad zLoad)], 2, []⟩) (fun zz : Bool => ⟨51, [(3, [], .s (.bool zz))], [(1, .box 24 [.ref 0, .int .i64 b.rule, .int .i64 b.most]), (0, .sl .ro 61 3 b.loads encLoad zLoad)], 2, []⟩) (fun k zz => True) trivial ⟨0, rfl, Le_sel (ts := [4, 3, 1]) (ids := [1, 0]) (nx := 2) (by kernel_rfl)⟩ ?_ ?_
  · intro k1 v1_1 hn1 hp1 hi1 Q1 hq1 ho1
    refine WP_seq (WP_seq (WP_region (WPO_all tt_ok (by kernel_rfl) ?_)))
    refine WP_cond (v1_1 && (decide ((k1 : Int) < (b.loads.length : Int)))) (by kernel_rfl) (fun hc1 => ?_) (fun hc1 => ?_)
    rotate_left
    · refine WP_exit ?_
      show Q1 (.exit 0) _
      exact LA_exit hq1 v1_1 (loopR_end hi1 hc1) ⟨k1, hn1, hp1⟩ (Le_sel (ts := [3]) (ids := [1, 0]) (nx := 2) (by kernel_rfl))
    have hc1' := hc1; try simp only [Bool.and_eq_true, Bool.or_eq_true, Bool.and_eq_false_iff, Bool.or_eq_false_iff, Bool.not_eq_true', Bool.not_eq_false', decide_eq_true_eq, decide_eq_false_iff_not, beq_iff_eq, beq_eq_false_iff_ne, bne_iff_ne, bne_eq_false_iff_eq, ne_eq] at hc1'
    have hk1 : k1 < b.loads.length := by omega
    refine WP_skip ?_
    refine WP_seq (WP_block ?_)
    refine WP_region (WPO_run tt_ok 3 (by kernel_rfl) ?_)
    refine IX tt_ok (k1 : Int) b.loads.length [] (by kernel_rfl) (fun hG => ⟨by omega, by omega⟩) ?_
    refine WPO_run tt_ok 2 (by kernel_rfl) ?_
    refine CALL 83 [.g [.int .i64 (b.loads.getD k1 zLoad).w.lo, .int .i64 (b.loads.getD k1 zLoad).w.hi], .s (.int .i64 1), .s (.int .i64 60)] (.s (.bool (validF (b.loads.getD k1 zLoad).w 1 60))) [] (by kernel_rfl) (goes_of (by kernel_rfl)) (by kernel_rfl) (by kernel_rfl) (fun hG nV w h => validF_calls  (b.loads.getD k1 zLoad).w 1 60 w  ) ?_
    refine WPO_run tt_ok 4 (by kernel_rfl) ?_
    refine IX tt_ok (k1 : Int) b.loads.length [((validF (b.loads.getD k1 zLoad).w 1 60), true)] (by kernel_rfl) (fun hG => (by (try simp only [AllEq, and_true, Bool.and_eq_true, Bool.or_eq_true, Bool.not_eq_true', decide_eq_true_eq, decide_eq_false_iff_not] at hG); constructor <;> omega)) ?_
    refine WPO_run tt_ok 2 (by kernel_rfl) ?_
    refine CALL 34 [.s (.int .i64 (b.loads.getD k1 zLoad).lanes), .s (.int .i64 1), .s (.int .i64 7)] (.s (.bool (insideF (b.loads.getD k1 zLoad).lanes 1 7))) [((validF (b.loads.getD k1 zLoad).w 1 60), true)] (by kernel_rfl) (goes_of (by kernel_rfl)) (by kernel_rfl) (by kernel_rfl) (fun hG nV w h => insideF_calls  (b.loads.getD k1 zLoad).lanes 1 7 w  ) ?_
    refine WPO_all tt_ok (by kernel_rfl) ?_
    refine WP_region (WPO_all tt_ok (by kernel_rfl) ?_)
    show Q1 .normal _
    exact LA_go hq1 (ci := IntKind.i64.wrap ((k1 : Int) + 1)) ((validF (b.loads.getD k1 zLoad).w 1 60) && (insideF (b.loads.getD k1 zLoad).lanes 1 7)) hk1 (by show _ = ((k1 + 1 : Nat) : Int); rw [wrapI (by omega) (by omega)]; omega) (loopR_go hi1 hk1 hc1 (rfl)) trivial (Le_sel (ts := [4, 3, 1]) (ids := [1, 0]) (nx := 2) (by kernel_rfl))
  intro u1_0 hR1 hP1 s' hl
  refine WP_le hl ?_
  clear hl s'
  refine WP_seq (WP_region (WPO_all tt_ok (by kernel_rfl) ?_))
  refine WP_ret ?_
  exact ⟨.s (.bool u1_0), by kernel_rfl, fun nV w' h => ⟨by rw [show soundL b = u1_0 from by unfold soundL; simp only [hR1, cond_true, cond_false]]; rfl, h.bel⟩⟩
def chosenL (b : DBook) (n : Int) : (List Int) :=
  (membersF (modF n (IntKind.i64.wrap (1 * 2 ^ (min (b.loads.length : Int).toNat IntKind.i64.bits)))) (b.loads.length : Int))
theorem chosenL_calls (g0 : Value) (b : DBook) (n : Int) (w : World) (r0 : Reads w g0 3 b.loads encLoad zLoad) (hb5 : b.loads.length ≤ 5) : Calls Tryd.prog 28 #[.agg #[g0, iv b.rule, iv b.most], iv n] w fun e w' => ∃ v0, e = .returned (v0) ∧ Below w.heap.size w w' ∧ w'.ownsRow w.heap.size 3 1 v0 (chosenL b n).length (flat (chosenL b n) encI) := by
  refine calls_of_WP (cx := cx0 w (vn [g0]) 1) (n := vn [g0]) (vs := [.g [.ref 0, .int .i64 b.rule, .int .i64 b.most], .s (.int .i64 n)]) (hp := [(0, .sl .ro 61 3 b.loads encLoad zLoad)]) (nx := 1) tt_ok Tryd.func28 rfl rfl rfl (by kernel_rfl) (HSat_args (vn_one (by simp [r0.one])) (Nat.le_refl _) ⟨⟨⟨fun _ => rfl, by decide, r0⟩, (Nat.le_of_ble_eq_true rfl)⟩, trivial⟩) (vsOk (by kernel_rfl)) ?_
  have hl0 := Reads.len r0
  refine WP_seq (WP_region (WPO_all tt_ok (by kernel_rfl) ?_))
  refine WP_seq (WP_drawH [] (by kernel_rfl) (by kernel_rfl) ?_)
  refine H_run tt_ok [0, 1, 2, 3] (f' := 7) (by kernel_rfl) (by kernel_rfl) (by kernel_rfl) ?_
  refine H_BIN 4 .shl 3 (.const (.int .i64 1)) (.tmp 8) (.s (.int .i64 1)) (.s (.int .i64 (b.loads.length : Int))) (.s (.int .i64 (IntKind.i64.wrap (1 * 2 ^ (min (b.loads.length : Int).toNat IntKind.i64.bits))))) [] (by kernel_rfl) (by kernel_rfl) (by kernel_rfl) (fun _ _ => BinOk_shl (by omega)) (by kernel_rfl) (by kernel_rfl) ?_
  refine H_run tt_ok [6, 7, 8] (f' := 3) (by kernel_rfl) (by kernel_rfl) (by kernel_rfl) ?_
  refine H_step 5 (by kernel_rfl) (by kernel_rfl) (fun hfz cx' hx1 hx2 => ?_)
  refine CALL 54 [.s (.int .i64 n), .s (.int .i64 (IntKind.i64.wrap (1 * 2 ^ (min (b.loads.length : Int).toNat IntKind.i64.bits))))] (.s (.int .i64 (modF n (IntKind.i64.wrap (1 * 2 ^ (min (b.loads.length : Int).toNat IntKind.i64.bits)))))) [] (by kernel_rfl) (goes_of (by kernel_rfl)) (by kernel_rfl) (by kernel_rfl) (fun hG nV w h => modF_calls  n (IntKind.i64.wrap (1 * 2 ^ (min (b.loads.length : Int).toNat IntKind.i64.bits))) w  ) ?_
  refine WPO_end (by kernel_rfl) ⟨rfl, (hfz.fnds [1, 0] (by kernel_rfl) ⟨by kernel_rfl, by kernel_rfl, trivial⟩ (by kernel_rfl)), ?_⟩
  refine H_step 9 (by kernel_rfl) (by kernel_rfl) (fun hfz cx' hx1 hx2 => ?_)
  refine CALLO 57 [.s (.int .i64 (modF n (IntKind.i64.wrap (1 * 2 ^ (min (b.loads.length : Int).toNat IntKind.i64.bits))))), .s (.int .i64 (b.loads.length : Int))] (.s (.ref 2)) 3 1 (membersF (modF n (IntKind.i64.wrap (1 * 2 ^ (min (b.loads.length : Int).toNat IntKind.i64.bits)))) (b.loads.length : Int)) encI 0 2 (by kernel_rfl) (by kernel_rfl) (goes_of (by kernel_rfl)) (by kernel_rfl) (by kernel_rfl) (fun _ => rfl) ((fun nV w h => membersF_calls  (modF n (IntKind.i64.wrap (1 * 2 ^ (min (b.loads.length : Int).toNat IntKind.i64.bits)))) (b.loads.length : Int) w  (by first | assumption | omega))) ?_
  refine WPO_end (by kernel_rfl) ⟨rfl, (hfz.fnds [1, 0] (by kernel_rfl) ⟨by kernel_rfl, by kernel_rfl, trivial⟩ (by kernel_rfl)), ?_⟩
  refine H_run tt_ok [10] (f' := 0) (by kernel_rfl) (by kernel_rfl) (by kernel_rfl) ?_
  refine H_done (by kernel_rfl) ?_
  refine WP_ret ?_
  exact ⟨.s (.ref 2), by kernel_rfl, fun nV w' h => ⟨nV 2, rfl, h.bel, by rw [show chosenL b n = (membersF (modF n (IntKind.i64.wrap (1 * 2 ^ (min (b.loads.length : Int).toNat IntKind.i64.bits)))) (b.loads.length : Int)) from rfl]; exact own_of (z := 0) h (by kernel_rfl)⟩⟩
def crossingL_c1 (l : List Int) (c : Int) (k1 : Nat) : (List Int) → Bool := fun v1_1 => decide ((k1 : Int) < (l.length : Int))
def crossingL_b1 (l : List Int) (c : Int) (k1 : Nat) : (List Int) → Bd (List Int) (List Int) := fun v1_1 => (bif (l.getD k1 0) == c then .go (v1_1 ++ ([(k1 : Int)])) else .go v1_1)
def crossingL (l : List Int) (c : Int) : (List Int) :=
  (match loopR (crossingL_c1 l c) (crossingL_b1 l c) l.length 0 ([] : List Int) with | .brk u1_0 => u1_0 | .ret r => r)
def canL (b : DBook) (loads : List Int) : Bool :=
  (stowA b loads).2 == 0
theorem canL_calls (g0 g1 : Value) (b : DBook) (loads : List Int) (w : World) (r0 : Reads w g0 3 b.loads encLoad zLoad) (r1 : Reads w g1 1 loads encI 0) (hnb : NobodyAt w) (hla : LanesAt w) : Calls Tryd.prog 51 #[.agg #[g0, iv b.rule, iv b.most], g1] w fun e w' => e = .returned (.bool (canL b loads)) ∧ Below w.heap.size w w' := by
  refine calls_of_WP (cx := cx0 w (vn [g0, g1]) 2) (n := vn [g0, g1]) (vs := [.g [.ref 0, .int .i64 b.rule, .int .i64 b.most], .s (.ref 1)]) (hp := [(0, .sl .ro 61 3 b.loads encLoad zLoad), (1, .sl .ro 3 1 loads encI 0), (2, .pf NobodyAt (· = 1)), (3, .pf LanesAt (· = 0))]) (nx := 4) tt_ok Tryd.func51 rfl rfl rfl (by kernel_rfl) (HSat_args (vn_one (by simp [r0.one, r1.one])) (by decide) ⟨⟨⟨fun _ => rfl, by decide, r0⟩, (Nat.le_of_ble_eq_true rfl)⟩, ⟨⟨fun _ => rfl, by decide, r1⟩, (Nat.le_of_ble_eq_true rfl)⟩, ⟨⟨hnb, fun w1 w2 h1 hw => (hw 1 rfl).trans h1, fun g hg => by cases hg; exact (Array.getElem?_eq_some_iff.1 hnb).1⟩, (Nat.le_of_ble_eq_true rfl)⟩, ⟨⟨hla, fun w1 w2 h1 hw => (hw 0 rfl).trans h1, fun g hg => by cases hg; exact (Array.getElem?_eq_some_iff.1 hla).1⟩, (Nat.le_of_ble_eq_true rfl)⟩, trivial⟩) (vsOk (by kernel_rfl)) ?_
  have hl0 := Reads.len r0
  have hl1 := Reads.len r1
  refine WP_seq (WP_region (WPO_all tt_ok (by kernel_rfl) ?_))
  refine WP_seq (WP_region (WPO_run tt_ok 2 (by kernel_rfl) ?_))
  refine CALLR 36 [.g [.ref 0, .int .i64 b.rule, .int .i64 b.most], .s (.ref 1)] (.t [(false, [.ref 5]), (false, [.int .i64 (stowA b loads).2])]) 65 2 (stowA b loads).1 encPlace zPlace 5 (by kernel_rfl) (by kernel_rfl) (goes_of (by kernel_rfl)) (by kernel_rfl) (by kernel_rfl) (by decide) (fun _ => rfl) (fun nV w h => (stowA_calls (nV 0) (nV 1) b loads w (h.reads (id := 0) (kd := .ro) (e := 61) (by kernel_rfl)) (h.reads (id := 1) (kd := .ro) (e := 3) (by kernel_rfl)) (h.ents (2, .pf NobodyAt (· = 1)) (fnd_mem (by kernel_rfl))).1 (h.ents (3, .pf LanesAt (· = 0)) (fnd_mem (by kernel_rfl))).1 ).mono fun e w' h1 => weak_fresh h1) ?_
  refine WPO_all tt_ok (by kernel_rfl) ?_
  refine WP_seq (WP_region (WPO_all tt_ok (by kernel_rfl) ?_))
  refine WP_ret ?_
  exact ⟨.s (.bool ((stowA b loads).2 == 0)), by kernel_rfl, fun nV w' h => ⟨by rw [show canL b loads = ((stowA b loads).2 == 0) from rfl]; rfl, h.bel⟩⟩
end Go.Proofs.YthfnedbpmdkdjaaDoor.D
namespace Go.Proofs.YthfnedbpmdkdjaaDoor.D
open Go Go.ChangeShapes Go.WideShapes Go.RowKit Go.Proofs.YthfnedbpmdkdjaaDoor.Eng Go.Proofs.YthfnedbpmdkdjaaDoor.Cm
set_option linter.unusedVariables false
set_option linter.unusedSimpArgs false
set_option linter.unusedSectionVars false
set_option maxRecDepth 100000
theorem app_eq {a b c d : List Value} (h : a = b) (k : c = d) : a ++ c = b ++ d := by rw [h, k]
theorem opn3 {w : World} : Opn Tryd.prog w 3 (fun cs => ∃ (b : Int), cs = [iv b] ∧ i64B b ∧ True) := (Opn_int Tryd.underlying3).mono fun cs ⟨n, h1, h2⟩ => ⟨n, h1, h2, trivial⟩
theorem opn43 {w : World} : Opn Tryd.prog w 43 (fun cs => ∃ (b : Span), cs = [iv b.lo, iv b.hi] ∧ i64B b.lo ∧ i64B b.hi ∧ True) :=
  (Opn_parts (P := Tryd.prog) (w := w) [⟨0, 3, 1, (fun cs => ∃ (b : Int), cs = [iv b] ∧ i64B b ∧ True)⟩, ⟨1, 3, 1, (fun cs => ∃ (b : Int), cs = [iv b] ∧ i64B b ∧ True)⟩] 2 Tryd.underlying43 (by kernel_rfl) (by kernel_rfl) ⟨opn3, opn3, trivial⟩).mono fun cs h => by
    obtain ⟨hl, ⟨b0, e0, f0_0, _⟩, ⟨b1, e1, f1_0, _⟩, _⟩ := h
    exact ⟨(⟨b0, b1⟩ : Span), (tl 0 1 cs).trans (app_eq e0 ((tl 1 1 cs).trans (app_eq e1 (tlz hl)))), f0_0, f1_0, trivial⟩
theorem opn61 {w : World} : Opn Tryd.prog w 61 (fun cs => ∃ (b : Load), cs = [iv b.w.lo, iv b.w.hi, iv b.lanes] ∧ i64B b.w.lo ∧ i64B b.w.hi ∧ i64B b.lanes ∧ True) :=
  (Opn_parts (P := Tryd.prog) (w := w) [⟨0, 43, 2, (fun cs => ∃ (b : Span), cs = [iv b.lo, iv b.hi] ∧ i64B b.lo ∧ i64B b.hi ∧ True)⟩, ⟨2, 3, 1, (fun cs => ∃ (b : Int), cs = [iv b] ∧ i64B b ∧ True)⟩] 3 Tryd.underlying61 (by kernel_rfl) (by kernel_rfl) ⟨opn43, opn3, trivial⟩).mono fun cs h => by
    obtain ⟨hl, ⟨b0, e0, f0_0, f0_1, _⟩, ⟨b1, e1, f1_0, _⟩, _⟩ := h
    exact ⟨(⟨b0, b1⟩ : Load), (tl 0 2 cs).trans (app_eq e0 ((tl 2 1 cs).trans (app_eq e1 (tlz hl)))), f0_0, f0_1, f1_0, trivial⟩
theorem opn22 {w : World} : Opn Tryd.prog w 22 (fun cs => ∃ (g0 : Value) (b : List Load), cs = [g0] ∧ (Reads w g0 3 b encLoad zLoad ∧ (∀ a ∈ b, i64B a.w.lo ∧ i64B a.w.hi ∧ i64B a.lanes) ∧ b.length * 24 ≤ reachBytes) ∧ True) := (Opn_slice (encA := encLoad) (z := zLoad) (ok := (fun a : Load => i64B a.w.lo ∧ i64B a.w.hi ∧ i64B a.lanes)) (sz := 3) Tryd.underlying22 (by kernel_rfl) (opn61.mono fun cs ⟨a, h1, k0, k1, k2, _⟩ => ⟨a, h1, ⟨k0, k1, k2⟩⟩)).mono fun cs ⟨v, l, h1, h2, h3, h4⟩ => ⟨v, l, h1, ⟨h2, h3, h4⟩, trivial⟩
theorem opn24 {w : World} : Opn Tryd.prog w 24 (fun cs => ∃ (g0 : Value) (b : DBook), cs = [g0, iv b.rule, iv b.most] ∧ (Reads w g0 3 b.loads encLoad zLoad ∧ (∀ a ∈ b.loads, i64B a.w.lo ∧ i64B a.w.hi ∧ i64B a.lanes) ∧ b.loads.length * 24 ≤ reachBytes) ∧ i64B b.rule ∧ i64B b.most ∧ True) :=
  (Opn_parts (P := Tryd.prog) (w := w) [⟨0, 22, 1, (fun cs => ∃ (g0 : Value) (b : List Load), cs = [g0] ∧ (Reads w g0 3 b encLoad zLoad ∧ (∀ a ∈ b, i64B a.w.lo ∧ i64B a.w.hi ∧ i64B a.lanes) ∧ b.length * 24 ≤ reachBytes) ∧ True)⟩, ⟨1, 3, 1, (fun cs => ∃ (b : Int), cs = [iv b] ∧ i64B b ∧ True)⟩, ⟨2, 3, 1, (fun cs => ∃ (b : Int), cs = [iv b] ∧ i64B b ∧ True)⟩] 3 Tryd.underlying24 (by kernel_rfl) (by kernel_rfl) ⟨opn22, opn3, opn3, trivial⟩).mono fun cs h => by
    obtain ⟨hl, ⟨p0_0, b0, e0, f0_0, _⟩, ⟨b1, e1, f1_0, _⟩, ⟨b2, e2, f2_0, _⟩, _⟩ := h
    exact ⟨p0_0, (⟨b0, b1, b2⟩ : DBook), (tl 0 1 cs).trans (app_eq e0 ((tl 1 1 cs).trans (app_eq e1 ((tl 2 1 cs).trans (app_eq e2 (tlz hl)))))), f0_0, f1_0, f2_0, trivial⟩
theorem own : ownKnob Tryd.prog.godebug = none := by kernel_rfl
theorem laidOut : laidOutB Tryd.prog = true := by kernel_rfl
theorem gLanes : Tryd.prog.globalNamed "prow/deck.lanes" = some 0 := by kernel_rfl
theorem tLanes : (Tryd.prog.globals[0]?).map (·.type) = some 127 := by kernel_rfl
theorem gNob : Tryd.prog.globalNamed "prow/deck.nobody" = some 1 := by kernel_rfl
theorem tNob : (Tryd.prog.globals[1]?).map (·.type) = some 65 := by kernel_rfl
theorem int_of_trod {H : Type} {enc : TypeId × Value → H} {Pr : Program} {w : World} {base : Nat} {sp : Nat → Bool} {held : Bool} {fuel : Nat} {t : TypeId} {k : IntKind} {n : Int} {v : Value} {q : List MemPlace} (ht : Pr.underlying t = some (.int k)) (h : DataW.trod enc Pr w base sp held fuel t [v] = some (.lit (.int k n), q)) : v = .int k n := by
  cases fuel with
  | zero => cases h
  | succ m =>
    simp only [DataW.trod, ht] at h
    cases v <;> simp at h
    rename_i k' n'
    obtain ⟨⟨h1, h2⟩, h3⟩ := h
    first | (obtain ⟨h4, _⟩ := h3; subst h1; rw [h4]) | (subst h1; simp_all)
theorem deck_of {W : World} (hS : W.ShapedOpen Tryd.prog) (h : laidMetH Tryd.prog [("prow/deck.lanes", Rows.laid_prow_deck_lanes), ("prow/deck.nobody", Rows.laid_prow_deck_nobody)] W) : NobodyAt W ∧ LanesAt W := by
  constructor
  · have h1 : laidMet Tryd.prog [("prow/deck.nobody", Rows.laid_prow_deck_nobody)] W := by
      have h2 : laidMet Tryd.prog [("prow/deck.nobody", Rows.laid_prow_deck_nobody)] W ∧ handlesMet Tryd.prog [("prow/deck.lanes", Rows.laid_prow_deck_lanes)] W := h
      exact h2.1
    obtain ⟨ps, ⟨g, t, cs, fuel, p, q, hg, ht, hv, hd, _⟩, _⟩ := h1
    obtain rfl := Option.some.inj (gNob.symm.trans hg)
    obtain rfl := Option.some.inj (tNob.symm.trans ht)
    obtain ⟨c, hc, hsz, _⟩ := hS.1 1 #[.int .i64 0, .int .i64 0] 65 (Nat.le_of_ble_eq_true (by kernel_rfl)) (by kernel_rfl)
    have hcs : ∀ i : Nat, W.cell? ⟨1, i, none⟩ = cs[i]? := fun i => World.var?_cell hg hv i
    have hcc : ∀ i : Nat, W.cell? ⟨1, i, none⟩ = c[i]? := fun i => cell_of_row W 1 _ _ _ _ hc
    have hd' : DataW.trod (fun _ => ()) Tryd.prog W 0 (fun _ => true) false fuel 65 cs.toList = some (.agg [.lit (.int .i64 (-1)), .lit (.int .i64 0)], p) := hd
    cases fuel with
    | zero => cases hd'
    | succ n =>
      simp only [DataW.trod, Tryd.underlying65] at hd'
      split at hd'
      · rename_i hl
        obtain ⟨xs, hxs, he⟩ := Option.map_eq_some_iff.1 hd'
        have hl2 : cs.toList.length = 2 := hl.trans (by kernel_rfl)
        have hk : Tryd.prog.cellsOf 3 = 1 := by kernel_rfl
        simp only [Prod.mk.injEq, DataW.agg.injEq] at he
        obtain ⟨y0, hy0, hx0⟩ := mapM_get hxs 0 _ rfl
        obtain ⟨y1, hy1, hx1⟩ := mapM_get hxs 1 _ rfl
        have h0 : y0.1 = .lit (.int .i64 (-1)) := by
          have := congrArg (fun l => l[0]?) he.1
          simp only [List.getElem?_map, hx0, Option.map_some] at this
          exact Option.some.inj this
        have h1 : y1.1 = .lit (.int .i64 0) := by
          have := congrArg (fun l => l[1]?) he.1
          simp only [List.getElem?_map, hx1, Option.map_some] at this
          exact Option.some.inj this
        simp only [hk] at hy0 hy1
        match hcl : cs.toList, hl2 with
        | [u0, u1], _ =>
          rw [hcl] at hy0 hy1
          have hu0 : DataW.trod (fun _ => ()) Tryd.prog W 0 (fun _ => true) false n 3 [u0] = some (.lit (.int .i64 (-1)), y0.2) := by rw [← h0]; exact hy0
          have hu1 : DataW.trod (fun _ => ()) Tryd.prog W 0 (fun _ => true) false n 3 [u1] = some (.lit (.int .i64 0), y1.2) := by rw [← h1]; exact hy1
          obtain rfl := int_of_trod Tryd.underlying3 hu0
          obtain rfl := int_of_trod Tryd.underlying3 hu1
          unfold NobodyAt
          rw [hc]
          have e0 := hcc 0
          have e1 := hcc 1
          rw [hcs 0, ← Array.getElem?_toList, hcl] at e0
          rw [hcs 1, ← Array.getElem?_toList, hcl] at e1
          have : c = #[iv (-1), iv 0] := by
            have hs2 : c.size = 2 := hsz
            apply Array.ext
            · rw [hs2]; rfl
            · intro i h1 h2
              rw [hs2] at h1
              have : i = 0 ∨ i = 1 := by omega
              rcases this with rfl | rfl
              · have := e0.symm; rw [Array.getElem?_eq_getElem (by omega)] at this; exact Option.some.inj this
              · have := e1.symm; rw [Array.getElem?_eq_getElem (by omega)] at this; exact Option.some.inj this
          rw [this]
      · cases hd'
  · obtain ⟨g, t, cs, fuel, p, hg, ht, hv, hd⟩ := h.funcs List.mem_cons_self
    obtain rfl := Option.some.inj (gLanes.symm.trans hg)
    obtain rfl := Option.some.inj (tLanes.symm.trans ht)
    obtain ⟨c, hc, hsz, _⟩ := hS.1 0 #[.nilFunc, .nilFunc, .nilFunc] 127 (Nat.le_of_ble_eq_true (by kernel_rfl)) (by kernel_rfl)
    have hcs : ∀ i : Nat, W.cell? ⟨0, i, none⟩ = cs[i]? := fun i => World.var?_cell hg hv i
    have hcc : ∀ i : Nat, W.cell? ⟨0, i, none⟩ = c[i]? := fun i => cell_of_row W 0 _ _ _ _ hc
    have hd' : DataW.trod (funcToken Tryd.prog) Tryd.prog W 0 (fun _ => true) true fuel 127 cs.toList = some (.agg [.held [40, 112, 114, 111, 119, 47, 100, 101, 99, 107, 46, 108, 105, 115, 116, 41, 46, 112, 111, 114, 116], .held [40, 112, 114, 111, 119, 47, 100, 101, 99, 107, 46, 108, 105, 115, 116, 41, 46, 109, 105, 100, 100, 108, 101], .held [40, 112, 114, 111, 119, 47, 100, 101, 99, 107, 46, 108, 105, 115, 116, 41, 46, 115, 116, 97, 114]], p) := hd
    cases fuel with
    | zero => cases hd'
    | succ n =>
      simp only [DataW.trod, Tryd.underlying127] at hd'
      split at hd'
      · rename_i hl
        obtain ⟨xs, hxs, he⟩ := Option.map_eq_some_iff.1 hd'
        have hl2 : cs.toList.length = 3 := hl.trans (by kernel_rfl)
        have hk : Tryd.prog.cellsOf 126 = 1 := by kernel_rfl
        simp only [Prod.mk.injEq, DataW.agg.injEq] at he
        obtain ⟨y0, hy0, hx0⟩ := mapM_get hxs 0 0 rfl
        obtain ⟨y1, hy1, hx1⟩ := mapM_get hxs 1 1 rfl
        obtain ⟨y2, hy2, hx2⟩ := mapM_get hxs 2 2 rfl
        have h0 : y0.1 = .held [40, 112, 114, 111, 119, 47, 100, 101, 99, 107, 46, 108, 105, 115, 116, 41, 46, 112, 111, 114, 116] := by
          have := congrArg (fun l => l[0]?) he.1
          simp only [List.getElem?_map, hx0, Option.map_some] at this
          exact Option.some.inj this
        have h1 : y1.1 = .held [40, 112, 114, 111, 119, 47, 100, 101, 99, 107, 46, 108, 105, 115, 116, 41, 46, 109, 105, 100, 100, 108, 101] := by
          have := congrArg (fun l => l[1]?) he.1
          simp only [List.getElem?_map, hx1, Option.map_some] at this
          exact Option.some.inj this
        have h2 : y2.1 = .held [40, 112, 114, 111, 119, 47, 100, 101, 99, 107, 46, 108, 105, 115, 116, 41, 46, 115, 116, 97, 114] := by
          have := congrArg (fun l => l[2]?) he.1
          simp only [List.getElem?_map, hx2, Option.map_some] at this
          exact Option.some.inj this
        rw [hk] at hy0 hy1 hy2
        match hcl : cs.toList, hl2 with
        | [u0, u1, u2], _ =>
          rw [hcl] at hy0 hy1 hy2
          have hu0 : DataW.trod (funcToken Tryd.prog) Tryd.prog W 0 (fun _ => true) true n 126 [u0] = some (.held [40, 112, 114, 111, 119, 47, 100, 101, 99, 107, 46, 108, 105, 115, 116, 41, 46, 112, 111, 114, 116], y0.2) := by rw [← h0]; exact hy0
          have hu1 : DataW.trod (funcToken Tryd.prog) Tryd.prog W 0 (fun _ => true) true n 126 [u1] = some (.held [40, 112, 114, 111, 119, 47, 100, 101, 99, 107, 46, 108, 105, 115, 116, 41, 46, 109, 105, 100, 100, 108, 101], y1.2) := by rw [← h1]; exact hy1
          have hu2 : DataW.trod (funcToken Tryd.prog) Tryd.prog W 0 (fun _ => true) true n 126 [u2] = some (.held [40, 112, 114, 111, 119, 47, 100, 101, 99, 107, 46, 108, 105, 115, 116, 41, 46, 115, 116, 97, 114], y2.2) := by rw [← h2]; exact hy2
          obtain rfl := Go.func_of_trod (f0 := 147) Tryd.underlying126 (by kernel_rfl) hu0
          obtain rfl := Go.func_of_trod (f0 := 145) Tryd.underlying126 (by kernel_rfl) hu1
          obtain rfl := Go.func_of_trod (f0 := 148) Tryd.underlying126 (by kernel_rfl) hu2
          unfold LanesAt
          rw [hc]
          have e0 := hcc 0
          have e1 := hcc 1
          have e2 := hcc 2
          rw [hcs 0, ← Array.getElem?_toList, hcl] at e0
          rw [hcs 1, ← Array.getElem?_toList, hcl] at e1
          rw [hcs 2, ← Array.getElem?_toList, hcl] at e2
          have : c = #[.func (.func 147) #[] #[], .func (.func 145) #[] #[], .func (.func 148) #[] #[]] := by
            have hs2 : c.size = 3 := hsz
            apply Array.ext
            · rw [hs2]; rfl
            · intro i h1 h2
              rw [hs2] at h1
              have : i = 0 ∨ i = 1 ∨ i = 2 := by omega
              rcases this with rfl | rfl | rfl
              · have := e0.symm; rw [Array.getElem?_eq_getElem (by omega)] at this; exact Option.some.inj this
              · have := e1.symm; rw [Array.getElem?_eq_getElem (by omega)] at this; exact Option.some.inj this
              · have := e2.symm; rw [Array.getElem?_eq_getElem (by omega)] at this; exact Option.some.inj this
          rw [this]
      · cases hd'
end Go.Proofs.YthfnedbpmdkdjaaDoor.D
namespace Go.Proofs.YthfnedbpmdkdjaaDoor.D
open Go Go.RowKit Go.Proofs.YthfnedbpmdkdjaaDoor.Eng Go.Proofs.YthfnedbpmdkdjaaDoor.Cm
set_option linter.unusedVariables false
set_option linter.unusedSimpArgs false
set_option linter.unusedSectionVars false
theorem sound_eq (b : DBook) : soundL b = ((((((checkD b) == 0) && (insideF (b.loads.length : Int) 1 5)) && (insideF b.rule 0 30)) && (insideF b.most 1 200)) && (List.range b.loads.length).all fun k => (validF (b.loads.getD k zLoad).w 1 60) && (insideF (b.loads.getD k zLoad).lanes 1 7)) := by
  unfold soundL
  rw [loopR_all (fun k => (validF (b.loads.getD k zLoad).w 1 60) && (insideF (b.loads.getD k zLoad).lanes 1 7)) (fun k v hk => by simp only [soundL_c1]; rw [decide_eq_true (by omega), Bool.and_true]) (fun k hk => rfl)]
theorem sound_iff {b : DBook} : soundL b = true ↔ ValidD b := by
  rw [sound_eq]
  simp only [Bool.and_eq_true, List.all_eq_true, List.mem_range, beq_iff_eq]
  constructor
  · rintro ⟨⟨⟨⟨h, _⟩, _⟩, _⟩, _⟩
    exact checkD_valid.1 h
  · intro h
    refine ⟨⟨⟨⟨checkD_valid.2 h, ?_⟩, ?_⟩, ?_⟩, fun k hk => ?_⟩
    · have := h.n; simp only [insideF, Bool.and_eq_true, decide_eq_true_eq]; omega
    · have := h.rule; simp only [insideF, Bool.and_eq_true, decide_eq_true_eq]; omega
    · have := h.most; simp only [insideF, Bool.and_eq_true, decide_eq_true_eq]; omega
    · have := h.load hk
      simp only [insideF, validF, Bool.and_eq_true, decide_eq_true_eq]; omega
theorem sound_valid {b : DBook} (h : (!(soundL b)) = false) : ValidD b := sound_iff.1 (by simpa using h)
theorem sound_not {b : DBook} (h : (!(soundL b)) = true) : checkD b = 30 := by
  rcases checkD_two b with h1 | h1
  · have := sound_iff.2 (checkD_valid.1 h1)
    rw [this] at h; cases h
  · exact h1
theorem members_eq (s : Int) (n : Nat) : membersF s (n : Int) = ((List.range n).filter fun k : Nat => memberF s k).map fun k : Nat => (k : Int) := by
  unfold membersF
  rw [show (n : Int).toNat = n by omega, loopR_app (fun k : Nat => bif memberF s k then [(k : Int)] else []) (fun k v hk => by simp only [membersF_c1]; rw [decide_eq_true]; omega) (fun k v hk => by
    simp only [membersF_b1]
    cases memberF s (k : Int) <;> simp)]
  simp only [List.nil_append]
  induction List.range n with
  | nil => rfl
  | cons x r ih =>
    rw [List.flatMap_cons, ih, List.filter_cons]
    cases memberF s (x : Int) <;> simp
theorem listed_eq (b : DBook) (s : Int) : listedD b s = membersF s (b.loads.length : Int) := by
  rw [members_eq]
  unfold listedD
  rw [loopR_app (fun k : Nat => bif memberF s k then [(k : Int)] else []) (fun k v hk => by simp only [listedD_c1]; rw [decide_eq_true]; omega) (fun k v hk => by
    simp only [listedD_b1, memberF]
    cases IntKind.i64.wrap (BitVec.ofInt IntKind.i64.bits (s.fdiv (2 ^ min (k : Int).toNat IntKind.i64.bits)) &&& BitVec.ofInt IntKind.i64.bits 1).toNat == 1 <;> simp)]
  simp only [List.nil_append]
  induction List.range b.loads.length with
  | nil => rfl
  | cons x r ih =>
    rw [List.flatMap_cons, ih, List.filter_cons]
    cases memberF s (x : Int) <;> simp
theorem members_mem {s : Int} {n : Nat} {x : Int} : x ∈ membersF s (n : Int) ↔ 0 ≤ x ∧ x < n ∧ memberF s x = true := by
  rw [members_eq]
  simp only [List.mem_map, List.mem_filter, List.mem_range]
  constructor
  · rintro ⟨k, ⟨h1, h2⟩, rfl⟩
    exact ⟨by omega, by omega, h2⟩
  · rintro ⟨h1, h2, h3⟩
    exact ⟨x.toNat, ⟨by omega, by rw [show ((x.toNat : Nat) : Int) = x by omega]; exact h3⟩, by omega⟩
theorem pow_small {n : Nat} (h : n ≤ 5) : IntKind.i64.wrap (1 * 2 ^ (min (n : Int).toNat IntKind.i64.bits)) = ((2 ^ n : Nat) : Int) := by
  have : n = 0 ∨ n = 1 ∨ n = 2 ∨ n = 3 ∨ n = 4 ∨ n = 5 := by omega
  rcases this with rfl | rfl | rfl | rfl | rfl | rfl <;> decide
def someD (b : DBook) : Int := (List.range (2 ^ b.loads.length)).foldl (fun (v : Int) (k : Nat) => bif (togetherD b (k : Int)) then IntKind.i64.wrap (BitVec.ofInt IntKind.i64.bits v ||| BitVec.ofInt IntKind.i64.bits (k : Int)).toNat else v) 0
theorem never_eq {b : DBook} (h : checkD b = 0) : neverA b = (listedD b (IntKind.i64.wrap (BitVec.ofInt IntKind.i64.bits (allD b) &&& ~~~(BitVec.ofInt IntKind.i64.bits (someD b))).toNat), 0) := by
  have hv := checkD_valid.1 h
  unfold neverA
  rw [h]
  simp only [bne_self_eq_false, cond_false]
  rw [loopR_foldl (c := neverA_c1 b) (b := neverA_b1 b) (fun (k : Nat) (v : Int) => bif (togetherD b (k : Int)) then IntKind.i64.wrap (BitVec.ofInt IntKind.i64.bits v ||| BitVec.ofInt IntKind.i64.bits (k : Int)).toNat else v) (fun k v hk => by simp only [neverA_c1]; rw [all_wrap hv.n.2, decide_eq_true]; omega) (fun k v hk => rfl)]
  rfl
theorem never_bad {b : DBook} (h : checkD b = 30) : neverA b = ([], 30) := by
  unfold neverA
  rw [h]; rfl
theorem never_pos (b : DBook) : ∀ x ∈ (neverA b).1, 0 ≤ x := fun x hx => by
  rcases checkD_two b with h | h
  · rw [never_eq h] at hx
    rw [listed_eq] at hx
    exact (members_mem.1 hx).1
  · rw [never_bad h] at hx; cases hx
end Go.Proofs.YthfnedbpmdkdjaaDoor.D
namespace Go.Proofs.YthfnedbpmdkdjaaDoor.D
open Go Go.RowKit Go.Proofs.YthfnedbpmdkdjaaDoor.Eng Go.Proofs.YthfnedbpmdkdjaaDoor.Cm
set_option linter.unusedVariables false
set_option linter.unusedSimpArgs false
set_option linter.unusedSectionVars false
def orI (s x : Int) : Int := IntKind.i64.wrap (BitVec.ofInt IntKind.i64.bits s ||| BitVec.ofInt IntKind.i64.bits (IntKind.i64.wrap (1 * 2 ^ (min x.toNat IntKind.i64.bits)))).toNat
def orS (s t : Int) : Int := IntKind.i64.wrap (BitVec.ofInt IntKind.i64.bits s ||| BitVec.ofInt IntKind.i64.bits t).toNat
def M (n s : Nat) : List Int := membersF (s : Int) (n : Int)
def all6 (p : Nat → Nat → Bool) : Bool := (List.range 6).all fun n => (List.range (2 ^ n)).all fun s => p n s
theorem all6_spec {p : Nat → Nat → Bool} (h : all6 p = true) {n s : Nat} (hn : n ≤ 5) (hs : s < 2 ^ n) : p n s = true :=
  List.all_eq_true.1 (List.all_eq_true.1 h n (List.mem_range.2 (by omega))) s (List.mem_range.2 hs)
theorem lift_all : all6 (fun n s => M n s == M 5 s) = true := by kernel_rfl
theorem climbs_all : all6 (fun n s => climbsF (M n s) (n : Int)) = true := by kernel_rfl
theorem set_all : all6 (fun n s => ((M n s).foldl orI 0 == (s : Int)) && setOfF (M n s) == (s : Int)) = true := by kernel_rfl
theorem pow_lt {n s : Nat} (hn : n ≤ 5) (hs : s < 2 ^ n) : s < 32 := by
  have := pow_le5 hn; omega
theorem lift {n s : Nat} (hn : n ≤ 5) (hs : s < 2 ^ n) : M n s = M 5 s := eq_of_beq (all6_spec lift_all hn hs)
theorem climbs_M {n s : Nat} (hn : n ≤ 5) (hs : s < 2 ^ n) : climbsF (M n s) (n : Int) = true := all6_spec climbs_all hn hs
theorem set_M {n s : Nat} (hn : n ≤ 5) (hs : s < 2 ^ n) : (M n s).foldl orI 0 = (s : Int) := eq_of_beq (Bool.and_eq_true_iff.1 (all6_spec set_all hn hs)).1
theorem setOf_M {n s : Nat} (hn : n ≤ 5) (hs : s < 2 ^ n) : setOfF (M n s) = (s : Int) := eq_of_beq (Bool.and_eq_true_iff.1 (all6_spec set_all hn hs)).2
structure Climb (n : Nat) (l : List Int) : Prop where
  rng : ∀ x ∈ l, 0 ≤ x ∧ x < n
  up : l.Pairwise (· < ·)
theorem M_climb (n s : Nat) : Climb n (M n s) := by
  refine ⟨fun x hx => ?_, ?_⟩
  · have := members_mem.1 hx
    exact ⟨this.1, this.2.1⟩
  · unfold M
    rw [members_eq]
    rw [List.pairwise_map]
    exact (List.pairwise_lt_range.filter _).imp fun h => by omega
theorem stow_loop {b : DBook} (hb5 : b.loads.length ≤ 5) {l : List Int} (h : Climb b.loads.length l) : ∃ v, loopR (stowA_c1 b l) (stowA_b1 b l) l.length 0 (-1, 0) = .brk (v, l.foldl orI 0) := by
  rcases loopR_keep (c := stowA_c1 b l) (b := stowA_b1 b l) (N := l.length) (fun k v => (-1 ≤ v.1 ∧ v.1 < b.loads.length) ∧ (∀ j, k ≤ j → j < l.length → v.1 < l.getD j 0) ∧ v.2 = (l.take k).foldl orI 0) (fun _ => False) (fun k v hk _ => by obtain ⟨v1, v2⟩ := v; simp only [stowA_c1]; rw [decide_eq_true]; omega) (fun k v hk hp => by
    obtain ⟨v1, v2⟩ := v
    have hm := h.rng _ (getD_mem (z := 0) hk)
    have h1 := hp.1
    have h2 : v1 < l.getD k 0 := hp.2.1 k (Nat.le_refl _) hk
    simp only at h1
    have hw : withinD (l.getD k 0) (IntKind.i64.wrap (v1 + 1)) (IntKind.i64.wrap ((b.loads.length : Int) - 1)) = true := by
      rw [wrapI (by omega) (by omega), wrapI (by omega) (by omega)]
      simp only [withinD, Bool.and_eq_true, decide_eq_true_eq]
      omega
    refine .inl ⟨(l.getD k 0, orI v2 (l.getD k 0)), by simp only [stowA_b1]; rw [hw]; rfl, ⟨by show -1 ≤ l.getD k 0; omega, by show l.getD k 0 < _; omega⟩, fun j hj hjl => ?_, ?_⟩
    · rw [List.getD_eq_getElem?_getD, List.getElem?_eq_getElem hk, List.getD_eq_getElem?_getD, List.getElem?_eq_getElem hjl]
      exact List.pairwise_iff_getElem.1 h.up k j hk hjl (by omega)
    · show orI v2 (l.getD k 0) = _
      have h3 : v2 = (l.take k).foldl orI 0 := hp.2.2
      rw [List.take_add_one, List.getElem?_eq_getElem hk, List.foldl_append, ← h3, List.getD_eq_getElem?_getD, List.getElem?_eq_getElem hk]
      rfl) (-1, 0) ⟨⟨by show (-1 : Int) ≤ -1; omega, by show (-1 : Int) < _; omega⟩, fun j _ hj => by have := h.rng _ (getD_mem (z := 0) hj); show (-1 : Int) < _; omega, rfl⟩ with ⟨v, e, hp⟩ | ⟨r, e, hf⟩
  · rw [List.take_length] at hp
    exact ⟨v.1, by rw [e]; exact congrArg _ (Prod.ext rfl hp.2.2)⟩
  · exact hf.elim
theorem stowA_M {b : DBook} (hv : ValidD b) {s : Nat} (hs : s < 2 ^ b.loads.length) : stowA b (M b.loads.length s) = bif !(stowD b (s : Int)).2 then ([], 4) else ((stowD b (s : Int)).1, 0) := by
  unfold stowA
  rw [checkD_valid.2 hv]
  obtain ⟨v, e⟩ := stow_loop hv.n.2 (M_climb b.loads.length s)
  rw [e, set_M hv.n.2 hs]
  rfl
theorem can_M {b : DBook} (hv : ValidD b) {s : Nat} (hs : s < 2 ^ b.loads.length) : canL b (M b.loads.length s) = togetherD b (s : Int) := by
  unfold canL togetherD
  rw [stowA_M hv hs]
  cases (stowD b (s : Int)).2 <;> rfl
theorem chosen_M {b : DBook} (hv : ValidD b) (n : Int) : ∃ s, s < 2 ^ b.loads.length ∧ chosenL b n = M b.loads.length s := by
  have hp := pow_small hv.n.2
  have hpos : 0 < 2 ^ b.loads.length := Nat.pow_pos (by decide)
  have hpl := pow_le5 hv.n.2
  have hm := modF_in n ((2 ^ b.loads.length : Nat) : Int) (by omega) (by omega)
  refine ⟨(modF n ((2 ^ b.loads.length : Nat) : Int)).toNat, by omega, ?_⟩
  unfold chosenL M
  rw [hp, show (((modF n ((2 ^ b.loads.length : Nat) : Int)).toNat : Nat) : Int) = modF n ((2 ^ b.loads.length : Nat) : Int) by omega]
end Go.Proofs.YthfnedbpmdkdjaaDoor.D
namespace Go.Proofs.YthfnedbpmdkdjaaDoor.D
open Go Go.RowKit Go.Proofs.YthfnedbpmdkdjaaDoor.Eng Go.Proofs.YthfnedbpmdkdjaaDoor.Cm
set_option linter.unusedVariables false
set_option linter.unusedSimpArgs false
set_option linter.unusedSectionVars false
theorem loopR_some {ρ : Type} {N : Nat} {b : Nat → Unit → Bd Unit ρ} {c : Nat → Unit → Bool} (g : Nat → Option ρ) (hc : ∀ k, k < N → c k () = true) (hb : ∀ k, k < N → b k () = match g k with | some r => .ret r | none => .go ()) : loopR c b N 0 () = match (List.range N).findSome? g with | some r => .ret r | none => .brk () := by
  have key : ∀ (m k : Nat), k + m = N → loopR c b (N - k) k () = (match (List.range' k m).findSome? g with | some r => .ret r | none => .brk ()) := by
    intro m
    induction m with
    | zero => intro k h; rw [show N - k = 0 by omega]; rfl
    | succ m ih =>
      intro k h
      rw [loopR_step (by omega) (hc k (by omega)), hb k (by omega), List.range'_succ, List.findSome?_cons]
      cases hg : g k with
      | some r => rfl
      | none => exact ih (k + 1) (by omega)
  rw [List.range_eq_range']
  exact key N 0 (by omega)
theorem range_first {β : Type} (f : Nat → Option β) (n : Nat) : (∃ a r, a < n ∧ f a = some r ∧ (∀ j, j < a → f j = none) ∧ (List.range n).findSome? f = some r) ∨ ((∀ j, j < n → f j = none) ∧ (List.range n).findSome? f = none) := by
  induction n with
  | zero => exact .inr ⟨fun j h => by omega, rfl⟩
  | succ n ih =>
    rw [List.range_succ, List.findSome?_append]
    rcases ih with ⟨a, r, h1, h2, h3, h4⟩ | ⟨h1, h2⟩
    · exact .inl ⟨a, r, by omega, h2, h3, by rw [h4]; rfl⟩
    · rw [h2]
      cases hf : f n with
      | some r => exact .inl ⟨n, r, by omega, hf, h1, by simp [hf]⟩
      | none => exact .inr ⟨fun j hj => by
          by_cases e : j = n
          · rw [e]; exact hf
          · exact h1 j (by omega), by simp [hf]⟩
def okP (b : DBook) (l : Span) (k q : Nat) : Bool := isPl b k q && !decide (levelD b (laneF (q : Int) l (b.loads.getD k zLoad).w) < 2)
def nextP (b : DBook) (F : List Place → Span → Int → List Place × Bool) (on : List Place) (l : Span) (left : Int) (k q : Nat) : List Place × Bool := F (on ++ [(⟨(k : Int), (q : Int)⟩ : Place)]) (laneF (q : Int) l (b.loads.getD k zLoad).w) (offI left k)
def g2 (b : DBook) (F : List Place → Span → Int → List Place × Bool) (on : List Place) (l : Span) (left : Int) (k q : Nat) : Option (List Place × Bool) := bif okP b l k q && (nextP b F on l left k q).2 then some ((nextP b F on l left k q).1, true) else none
def g1 (b : DBook) (F : List Place → Span → Int → List Place × Bool) (on : List Place) (l : Span) (left : Int) (k : Nat) : Option (List Place × Bool) := if (bitI left k == 0) = true then none else (List.range 3).findSome? (g2 b F on l left k)
theorem bit0_all : ((List.range 5).all fun k : Nat => bitI 0 k == 0) = true := by kernel_rfl
end Go.Proofs.YthfnedbpmdkdjaaDoor.D
namespace Go.Proofs.YthfnedbpmdkdjaaDoor.D
open Go Go.RowKit Go.Proofs.YthfnedbpmdkdjaaDoor.Eng Go.Proofs.YthfnedbpmdkdjaaDoor.Cm
set_option linter.unusedVariables false
set_option linter.unusedSimpArgs false
set_option linter.unusedSectionVars false
def z0 (s k : Nat) : Bool := bitI (s : Int) k == 0
theorem or_bits_all : ((List.range 32).all fun s => (List.range 5).all fun k => (List.range 5).all fun j => (bitI (orI (s : Int) (k : Int)) j == 0) == (z0 s j && !(j == k))) = true := by kernel_rfl
theorem mem_bits_all : ((List.range 32).all fun s => (List.range 5).all fun j => memberF (s : Int) (j : Int) == !(z0 s j)) = true := by kernel_rfl
theorem all2 {p : Nat → Nat → Bool} {m n : Nat} (h : ((List.range m).all fun s => (List.range n).all fun k => p s k) = true) {s k : Nat} (hs : s < m) (hk : k < n) : p s k = true := List.all_eq_true.1 (List.all_eq_true.1 h s (List.mem_range.2 hs)) k (List.mem_range.2 hk)
theorem castN {s : Int} (h : 0 ≤ s) : ((s.toNat : Nat) : Int) = s := by omega
theorem or_bits {s : Int} {k j : Nat} (h : 0 ≤ s ∧ s < 32) (hk : k < 5) (hj : j < 5) : (bitI (orI s (k : Int)) j == 0) = ((bitI s j == 0) && !(j == k)) := by
  have h1 := List.all_eq_true.1 (all2 or_bits_all (s := s.toNat) (k := k) (by omega) hk) j (List.mem_range.2 hj)
  simp only [z0, castN h.1] at h1
  exact eq_of_beq h1
theorem mem_bits {s : Int} {j : Nat} (h : 0 ≤ s ∧ s < 32) (hj : j < 5) : memberF s (j : Int) = !(bitI s j == 0) := by
  have h1 := all2 mem_bits_all (s := s.toNat) (k := j) (by omega) hj
  simp only [z0, castN h.1] at h1
  exact eq_of_beq h1
structure SetIs (s : Int) (ls : List Int) : Prop where
  nd : ls.Nodup
  rng : ∀ x ∈ ls, 0 ≤ x ∧ x < 5
  mem : ∀ k : Nat, k < 5 → ((bitI s k == 0) = false ↔ (k : Int) ∈ ls)
theorem setIs_M {n s : Nat} (hn : n ≤ 5) (hs : s < 2 ^ n) : SetIs (s : Int) (M n s) := by
  have h32 := pow_lt hn hs
  have hlist : M n s = M 5 s := lift hn hs
  rw [hlist]
  refine ⟨(M_climb 5 s).up.imp fun h => by omega, fun x hx => by have := (M_climb 5 s).rng x hx; omega, fun k hk => ?_⟩
  unfold M
  rw [members_mem, mem_bits (by omega) hk, Bool.not_eq_true']
  exact ⟨fun h => ⟨by omega, by omega, h⟩, fun h => h.2.2⟩
end Go.Proofs.YthfnedbpmdkdjaaDoor.D
namespace Go.Proofs.YthfnedbpmdkdjaaDoor.D
open Go Go.RowKit Go.Proofs.YthfnedbpmdkdjaaDoor.Eng Go.Proofs.YthfnedbpmdkdjaaDoor.Cm
set_option linter.unusedVariables false
set_option linter.unusedSimpArgs false
set_option linter.unusedSectionVars false
def updC (of : List Int) (c : Int) (k : Nat) : List Int := of.set c.toNat (orI (of.getD c.toNat 0) (k : Int))
def gC (F : List Int → List Int → List Int × Bool) (so of : List Int) (k : Nat) : Option (List Int × Bool) := bif (F (so ++ [(k : Int)]) (updC of (k : Int) so.length)).2 then some ((F (so ++ [(k : Int)]) (updC of (k : Int) so.length)).1, true) else none
theorem crossS_eq (b : DBook) (S : List (Int × Bool)) (F : List Int → List Int → List Int × Bool) (so of : List Int) : crossS b S F so of = if so.length = b.loads.length then (so, !(containsD S of)) else ((List.range of.length).findSome? (gC F so of)).getD ([], false) := by
  have hcut : cut so 0 (so.length : Int) = so := by simp [cut]
  unfold crossS
  by_cases h : so.length = b.loads.length
  · rw [if_pos h, h, beq_self_eq_true]; rfl
  · rw [if_neg h, show ((so.length : Int) == (b.loads.length : Int)) = false from beq_eq_false_iff_ne.2 (by omega), cond_false]
    rw [loopR_some (c := crossS_c1 b S F so of) (b := crossS_b1 b S F so of) (gC F so of) (fun k hk => by simp only [crossS_c1]; rw [decide_eq_true]; omega) (fun k hk => by
      simp only [crossS_b1, hcut, gC, updC, cloneL, cloneI, orI, show ((k : Int)).toNat = k by omega]
      generalize F (so ++ [(k : Int)]) _ = z
      obtain ⟨z1, z2⟩ := z
      cases z2 <;> rfl)]
    cases (List.range of.length).findSome? (gC F so of) <;> rfl
def finC : Nat → List Int → List Int → List Int
  | _, [], of => of
  | k, c :: cs, of => finC (k + 1) cs (updC of c k)
def LexI : List Int → List Int → Prop
  | x :: xs, y :: ys => x < y ∨ (x = y ∧ LexI xs ys)
  | _, _ => False
def SolC (S : List (Int × Bool)) (n : Nat) (so of cs : List Int) : Prop := so.length + cs.length = n ∧ (∀ c ∈ cs, 0 ≤ c ∧ c < of.length) ∧ containsD S (finC so.length cs of) = false
theorem sol_cons {S : List (Int × Bool)} {n : Nat} {so of cs : List Int} {c : Int} : SolC S n so of (c :: cs) ↔ (0 ≤ c ∧ c < of.length) ∧ SolC S n (so ++ [c]) (updC of c so.length) cs := by
  unfold SolC
  have hl : (updC of c so.length).length = of.length := by unfold updC; rw [List.length_set]
  rw [List.length_append, List.length_singleton, List.length_cons, hl]
  constructor
  · rintro ⟨h1, h2, h3⟩
    exact ⟨h2 c List.mem_cons_self, by omega, fun x hx => h2 x (List.mem_cons_of_mem _ hx), h3⟩
  · rintro ⟨h1, h2, h3, h4⟩
    exact ⟨by omega, fun x hx => (List.mem_cons.1 hx).elim (fun e => e ▸ h1) (h3 x), h4⟩
def FoundC (S : List (Int × Bool)) (n : Nat) (so of : List Int) (o : List Int × Bool) : Prop := (∃ cs, o = (so ++ cs, true) ∧ SolC S n so of cs ∧ ∀ ds, SolC S n so of ds → ¬ LexI ds cs) ∨ (o.2 = false ∧ ∀ ds, ¬ SolC S n so of ds)
theorem cross_found {b : DBook} (S : List (Int × Bool)) : ∀ (r : Nat) (so of : List Int), so.length + r = b.loads.length → FoundC S b.loads.length so of (crossD b S r so of) := by
  have leaf : ∀ (F : List Int → List Int → List Int × Bool) (so of : List Int), so.length = b.loads.length → FoundC S b.loads.length so of (crossS b S F so of) := fun F so of h => by
    rw [crossS_eq, if_pos h]
    have hnil : ∀ ds, SolC S b.loads.length so of ds → ds = [] := fun ds hd => List.length_eq_zero_iff.1 (by have := hd.1; omega)
    cases hc : containsD S of with
    | true => exact .inr ⟨rfl, fun ds hd => by
        have h1 := hd.2.2
        rw [hnil ds hd] at h1
        rw [show finC so.length [] of = of from rfl, hc] at h1; cases h1⟩
    | false => exact .inl ⟨[], by simp, ⟨by simpa using h, fun c hc => (by cases hc), hc⟩, fun ds hd hl => by rw [hnil ds hd] at hl; exact hl⟩
  intro r
  induction r with
  | zero => intro so of h; exact leaf _ so of (by omega)
  | succ r ih =>
    intro so of h
    show FoundC S b.loads.length so of (crossS b S (crossD b S r) so of)
    have hIH : ∀ k : Nat, FoundC S b.loads.length (so ++ [(k : Int)]) (updC of (k : Int) so.length) (crossD b S r (so ++ [(k : Int)]) (updC of (k : Int) so.length)) := fun k => ih _ _ (by rw [List.length_append, List.length_singleton]; omega)
    have hno : ∀ k : Nat, gC (crossD b S r) so of k = none → ∀ ds, ¬ SolC S b.loads.length (so ++ [(k : Int)]) (updC of (k : Int) so.length) ds := fun k hg => by
      unfold gC at hg
      rcases hIH k with ⟨xs, e, _⟩ | ⟨_, hn⟩
      · rw [e] at hg; cases hg
      · exact hn
    have hcons : ∀ ds, SolC S b.loads.length so of ds → ∃ (k : Nat) (es : List Int), ds = (k : Int) :: es ∧ k < of.length ∧ SolC S b.loads.length (so ++ [(k : Int)]) (updC of (k : Int) so.length) es := fun ds hd => by
      cases ds with
      | nil => have := hd.1; simp at this; omega
      | cons c es =>
        obtain ⟨h1, h2⟩ := sol_cons.1 hd
        refine ⟨c.toNat, es, by rw [castN h1.1], by omega, by rw [castN h1.1]; exact h2⟩
    rw [crossS_eq, if_neg (by omega)]
    rcases range_first (gC (crossD b S r) so of) of.length with ⟨k, o, hk, ho, hbef, hfs⟩ | ⟨hnone, hfs⟩
    · rw [hfs, Option.getD_some]
      unfold gC at ho
      rcases hIH k with ⟨xs, e, hsol, hmin⟩ | ⟨e, _⟩
      · rw [e] at ho
        simp only [cond_true, Option.some.injEq] at ho
        subst ho
        refine .inl ⟨(k : Int) :: xs, by simp, sol_cons.2 ⟨⟨by omega, by omega⟩, hsol⟩, fun ds hd hl => ?_⟩
        obtain ⟨k', es, rfl, hk', hes⟩ := hcons ds hd
        rcases hl with hl | ⟨hl, hl2⟩
        · exact hno k' (hbef k' (by omega)) _ hes
        · obtain rfl : k' = k := by omega
          exact hmin _ hes hl2
      · rw [e] at ho; cases ho
    · rw [hfs, Option.getD_none]
      exact .inr ⟨rfl, fun ds hd => by
        obtain ⟨k', es, rfl, hk', hes⟩ := hcons ds hd
        exact hno k' (hnone k' hk') _ hes⟩
def maskF : Nat → List Int → Nat → Int → Int
  | _, [], _, s => s
  | k, c :: cs, j, s => maskF (k + 1) cs j (if c = (j : Int) then orI s (k : Int) else s)
theorem fin_len : ∀ (cs : List Int) (k : Nat) (of : List Int), (finC k cs of).length = of.length := by
  intro cs
  induction cs with
  | nil => intro k of; rfl
  | cons c cs ih => intro k of; rw [finC, ih]; unfold updC; rw [List.length_set]
theorem fin_get : ∀ (cs : List Int) (k : Nat) (of : List Int) (j : Nat), (∀ c ∈ cs, 0 ≤ c ∧ c < of.length) → j < of.length → (finC k cs of).getD j 0 = maskF k cs j (of.getD j 0) := by
  intro cs
  induction cs with
  | nil => intro k of j _ _; rfl
  | cons c cs ih =>
    intro k of j hc hj
    have hc1 := hc c List.mem_cons_self
    have hl : (updC of c k).length = of.length := by unfold updC; rw [List.length_set]
    rw [finC, ih (k + 1) _ j (fun x hx => by rw [hl]; exact hc x (List.mem_cons_of_mem _ hx)) (by rw [hl]; exact hj), maskF]
    congr 1
    unfold updC
    rw [List.getD_eq_getElem?_getD, List.getElem?_set]
    by_cases e : c = (j : Int)
    · rw [if_pos (by omega), if_pos (by omega), if_pos e, show c.toNat = j by omega]; rfl
    · rw [if_neg (by omega), if_neg e, List.getD_eq_getElem?_getD]
theorem mask_bits : ∀ (cs : List Int) (k j : Nat) (s : Int), k + cs.length ≤ 5 → (0 ≤ s ∧ s < 32) → (0 ≤ maskF k cs j s ∧ maskF k cs j s < 32) ∧ ∀ i : Nat, i < 5 → ((bitI (maskF k cs j s) i == 0) = false ↔ (bitI s i == 0) = false ∨ (k ≤ i ∧ i < k + cs.length ∧ cs.getD (i - k) (-1) = (j : Int))) := by
  intro cs
  induction cs with
  | nil => intro k j s _ hs; exact ⟨hs, fun i _ => ⟨fun h => .inl h, fun h => h.elim id fun h => (by have := h.1; have := h.2.1; simp only [List.length_nil] at this; omega)⟩⟩
  | cons c cs ih =>
    intro k j s hk hs
    rw [List.length_cons] at hk
    have hs2 : 0 ≤ (if c = (j : Int) then orI s (k : Int) else s) ∧ (if c = (j : Int) then orI s (k : Int) else s) < 32 := by
      split
      · exact or_in hs (by omega)
      · exact hs
    obtain ⟨h1, h2⟩ := ih (k + 1) j _ (by omega) hs2
    refine ⟨h1, fun i hi => ?_⟩
    rw [maskF, h2 i hi, List.length_cons]
    have hbit : ((bitI (if c = (j : Int) then orI s (k : Int) else s) i == 0) = false) ↔ (bitI s i == 0) = false ∨ (c = (j : Int) ∧ i = k) := by
      split
      · rename_i e
        rw [or_bits hs (by omega) hi, Bool.and_eq_false_iff, Bool.not_eq_false', beq_iff_eq]
        exact ⟨fun h => h.imp id fun h => ⟨e, h⟩, fun h => h.imp id fun h => h.2⟩
      · rename_i e
        exact ⟨fun h => .inl h, fun h => h.elim id fun h => absurd h.1 e⟩
    rw [hbit]
    constructor
    · rintro ((h | ⟨h, rfl⟩) | ⟨h3, h4, h5⟩)
      · exact .inl h
      · exact .inr ⟨by omega, by omega, by simp [h]⟩
      · refine .inr ⟨by omega, by omega, ?_⟩
        rw [show i - k = (i - (k + 1)) + 1 by omega, List.getD_cons_succ]; exact h5
    · rintro (h | ⟨h3, h4, h5⟩)
      · exact .inl (.inl h)
      · by_cases e : i = k
        · subst e
          rw [Nat.sub_self, List.getD_cons_zero] at h5
          exact .inl (.inr ⟨h5, rfl⟩)
        · rw [show i - k = (i - (k + 1)) + 1 by omega, List.getD_cons_succ] at h5
          exact .inr ⟨by omega, by omega, h5⟩
theorem small_all : ((List.range 6).all fun n => (List.range 32).all fun s => decide (s < 2 ^ n) || (List.range 5).any fun k => decide (n ≤ k) && !(z0 s k)) = true := by kernel_rfl
theorem mask_spec {cs : List Int} (hn : cs.length ≤ 5) (j : Nat) : ∃ s : Nat, s < 2 ^ cs.length ∧ maskF 0 cs j 0 = (s : Int) ∧ crossingL cs (j : Int) = M cs.length s := by
  obtain ⟨h1, h2⟩ := mask_bits cs 0 j 0 (by omega) (by omega)
  have hz : ∀ i, i < 5 → (bitI 0 i == 0) = true := fun i hi => List.all_eq_true.1 bit0_all i (List.mem_range.2 hi)
  have h3 : ∀ i, i < 5 → ((bitI (maskF 0 cs j 0) i == 0) = false ↔ i < cs.length ∧ cs.getD i (-1) = (j : Int)) := fun i hi => by
    rw [h2 i hi, hz i hi]; simp
  refine ⟨(maskF 0 cs j 0).toNat, ?_, by omega, ?_⟩
  · have h4 := List.all_eq_true.1 (List.all_eq_true.1 small_all cs.length (List.mem_range.2 (by omega))) (maskF 0 cs j 0).toNat (List.mem_range.2 (by omega))
    rw [Bool.or_eq_true, decide_eq_true_eq] at h4
    rcases h4 with h4 | h4
    · exact h4
    · obtain ⟨k, hk, hb⟩ := List.any_eq_true.1 h4
      simp only [z0, castN h1.1, Bool.and_eq_true, decide_eq_true_eq, Bool.not_eq_true'] at hb
      have := (h3 k (List.mem_range.1 hk)).1 hb.2
      omega
  · unfold crossingL
    rw [loopR_app (c := crossingL_c1 cs (j : Int)) (b := crossingL_b1 cs (j : Int)) (fun k : Nat => bif (cs.getD k 0 == (j : Int)) then [(k : Int)] else []) (fun k v hk => by simp only [crossingL_c1]; rw [decide_eq_true]; omega) (fun k v hk => by
      simp only [crossingL_b1]
      cases (cs.getD k 0 == (j : Int)) <;> simp)]
    unfold M
    rw [members_eq, castN h1.1]
    simp only [List.nil_append]
    have : ∀ (ks : List Nat), (∀ k ∈ ks, k < cs.length) → (ks.flatMap fun k : Nat => bif (cs.getD k 0 == (j : Int)) then [(k : Int)] else []) = (ks.filter fun k : Nat => memberF (maskF 0 cs j 0) (k : Int)).map fun k : Nat => (k : Int) := by
      intro ks
      induction ks with
      | nil => intro _; rfl
      | cons k ks ih =>
        intro hk
        have hk1 := hk k List.mem_cons_self
        rw [List.flatMap_cons, ih fun i hi => hk i (List.mem_cons_of_mem _ hi), List.filter_cons]
        have hm : memberF (maskF 0 cs j 0) (k : Int) = (cs.getD k 0 == (j : Int)) := by
          rw [mem_bits h1 (by omega), Bool.eq_iff_iff, Bool.not_eq_true', beq_iff_eq, h3 k (by omega)]
          have hgd : cs.getD k (-1) = cs.getD k 0 := by
            rw [List.getD_eq_getElem?_getD, List.getD_eq_getElem?_getD, List.getElem?_eq_getElem hk1]; rfl
          rw [hgd]
          exact ⟨fun h => h.2, fun h => ⟨hk1, h⟩⟩
        rw [hm]
        cases (cs.getD k 0 == (j : Int)) <;> simp
    exact this _ fun k hk => List.mem_range.1 hk
theorem M_empty {n s : Nat} (hn : n ≤ 5) (hs : s < 2 ^ n) : (M n s).length = 0 ↔ s = 0 := by
  constructor
  · intro h
    have h1 := set_M hn hs
    rw [List.length_eq_zero_iff.1 h] at h1
    have h2 : (0 : Int) = (s : Int) := h1
    omega
  · rintro rfl
    rw [lift hn hs]; rfl
def Goes (b : DBook) (cs : List Int) (m : Nat) : Prop := ∀ j, j < m → maskF 0 cs j 0 ≠ 0 ∧ togetherD b (maskF 0 cs j 0) = true
def setsB (b : DBook) : List (Int × Bool) := (List.range (2 ^ b.loads.length)).map fun k : Nat => ((k : Int), togetherD b (k : Int))
theorem sets_at {b : DBook} {s : Nat} (hs : s < 2 ^ b.loads.length) : atI (setsB b) stK stV (s : Int) = togetherD b (s : Int) := by
  unfold atI setsB
  rw [List.find?_map]
  have : (List.range (2 ^ b.loads.length)).find? ((fun x : Int × Bool => stK x == (s : Int)) ∘ fun k : Nat => ((k : Int), togetherD b (k : Int))) = some s := by
    rw [List.find?_range_eq_some]
    refine ⟨by simp, List.mem_range.2 hs, fun j hj => ?_⟩
    simp only [Function.comp, Bool.not_eq_true', beq_eq_false_iff_ne]
    show ¬ ((j : Int) = (s : Int))
    omega
  rw [this]; rfl
theorem contains_iff (S : List (Int × Bool)) (of : List Int) : containsD S of = false ↔ ∀ j, j < of.length → badD S (of.getD j 0) = false := by
  unfold containsD indexD
  rw [loopR_find (c := indexD_c1 S of) (b := indexD_b1 S of) (fun j => badD S (of.getD j 0)) (fun j => (j : Int)) (fun j hj => by simp only [indexD_c1]; rw [decide_eq_true]; omega) (fun j hj => rfl)]
  cases hf : (List.range of.length).find? fun j => badD S (of.getD j 0) with
  | none =>
    refine ⟨fun _ j hj => ?_, fun _ => rfl⟩
    have := List.find?_eq_none.1 hf j (List.mem_range.2 hj)
    simpa using this
  | some i =>
    have h1 := List.find?_some hf
    have h2 := List.mem_range.1 (List.mem_of_find?_eq_some hf)
    refine ⟨fun h => ?_, fun h => ?_⟩
    · simp only [decide_eq_false_iff_not] at h; omega
    · rw [h i h2] at h1; cases h1
theorem sol_iff {b : DBook} (hv : ValidD b) {m : Nat} {cs : List Int} : SolC (setsB b) b.loads.length [] (List.replicate m 0) cs ↔ cs.length = b.loads.length ∧ (∀ c ∈ cs, 0 ≤ c ∧ c < (m : Int)) ∧ Goes b cs m := by
  unfold SolC
  rw [List.length_nil, Nat.zero_add, List.length_replicate]
  refine and_congr_right fun hl => and_congr_right fun hc => ?_
  rw [contains_iff, fin_len, List.length_replicate]
  unfold Goes
  refine forall_congr' fun j => forall_congr' fun hj => ?_
  rw [fin_get cs 0 _ j (by rw [List.length_replicate]; exact hc) (by rw [List.length_replicate]; exact hj)]
  have h0 : (List.replicate m (0 : Int)).getD j 0 = 0 := by
    rw [List.getD_eq_getElem?_getD, List.getElem?_replicate]; split <;> rfl
  rw [h0]
  obtain ⟨s, h1, h2, _⟩ := mask_spec (cs := cs) (by rw [hl]; exact hv.n.2) j
  rw [hl] at h1
  rw [h2]
  unfold badD
  rw [sets_at h1, Bool.or_eq_false_iff, beq_eq_false_iff_ne, Bool.not_eq_false']
theorem fewest_spec {b : DBook} (hv : ValidD b) : (∃ (m : Nat) (cs : List Int), (1 ≤ m ∧ m ≤ b.loads.length) ∧ fewestA b = (cs, 0) ∧ cs.length = b.loads.length ∧ (∀ c ∈ cs, 0 ≤ c ∧ c < (m : Int)) ∧ Goes b cs m ∧ (∀ ds : List Int, ds.length = b.loads.length → (∀ c ∈ ds, 0 ≤ c ∧ c < (m : Int)) → Goes b ds m → ¬ LexI ds cs) ∧ ∀ m' : Nat, 1 ≤ m' → m' < m → ∀ ds : List Int, ds.length = b.loads.length → (∀ c ∈ ds, 0 ≤ c ∧ c < (m' : Int)) → ¬ Goes b ds m') ∨ (fewestA b = ([], 4) ∧ ∀ m' : Nat, 1 ≤ m' → m' ≤ b.loads.length → ∀ ds : List Int, ds.length = b.loads.length → (∀ c ∈ ds, 0 ≤ c ∧ c < (m' : Int)) → ¬ Goes b ds m') := by
  have hn := hv.n
  have hsets : loopR (fewestA_c1 b) (fewestA_b1 b) (2 ^ b.loads.length) 0 ([] : List (Int × Bool)) = .brk (setsB b) := by
    rw [loopR_app (c := fewestA_c1 b) (b := fewestA_b1 b) (fun k : Nat => [((k : Int), togetherD b (k : Int))]) (fun k v hk => by simp only [fewestA_c1]; rw [all_wrap hv.n.2, decide_eq_true]; omega) (fun k v hk => rfl)]
    rw [← List.map_eq_flatMap]; rfl
  have hF : ∀ k : Nat, k < b.loads.length → FoundC (setsB b) b.loads.length [] (List.replicate (k + 1) 0) (crossD b (setsB b) b.loads.length [] (List.replicate (k + 1) 0)) := fun k _ => cross_found (setsB b) _ _ _ (by simp)
  have hw : ∀ k : Nat, k < b.loads.length → (IntKind.i64.wrap ((k : Int) + 1)).toNat = k + 1 := fun k hk => by rw [wrapI (by omega) (by omega)]; omega
  unfold fewestA
  rw [checkD_valid.2 hv, hsets]
  simp only [bne_self_eq_false, cond_false]
  rw [loopR_some (c := fewestA_c2 b (setsB b)) (b := fewestA_b2 b (setsB b)) (fun k : Nat => bif (crossD b (setsB b) b.loads.length [] (List.replicate (k + 1) 0)).2 then some ((crossD b (setsB b) b.loads.length [] (List.replicate (k + 1) 0)).1, (0 : Int)) else none) (fun k hk => by simp only [fewestA_c2]; rw [decide_eq_true]; omega) (fun k hk => by
    simp only [fewestA_b2]
    rw [hw k hk]
    cases (crossD b (setsB b) b.loads.length [] (List.replicate (k + 1) 0)).2 <;> rfl)]
  have hno : ∀ k : Nat, k < b.loads.length → (bif (crossD b (setsB b) b.loads.length [] (List.replicate (k + 1) 0)).2 then some ((crossD b (setsB b) b.loads.length [] (List.replicate (k + 1) 0)).1, (0 : Int)) else none) = none → ∀ ds : List Int, ds.length = b.loads.length → (∀ c ∈ ds, 0 ≤ c ∧ c < ((k + 1 : Nat) : Int)) → ¬ Goes b ds (k + 1) := fun k hk hnn ds h1 h2 h3 => by
    rcases hF k hk with ⟨cs, e, _⟩ | ⟨e, hnone⟩
    · rw [e] at hnn; cases hnn
    · exact hnone ds ((sol_iff hv).2 ⟨h1, h2, h3⟩)
  rcases range_first (fun k : Nat => bif (crossD b (setsB b) b.loads.length [] (List.replicate (k + 1) 0)).2 then some ((crossD b (setsB b) b.loads.length [] (List.replicate (k + 1) 0)).1, (0 : Int)) else none) b.loads.length with ⟨k, o, hk, ho, hbef, hfs⟩ | ⟨hnone, hfs⟩
  · left
    rw [hfs]
    rcases hF k hk with ⟨cs, e, hsol, hmin⟩ | ⟨e, _⟩
    · rw [e] at ho
      simp only [cond_true, Option.some.injEq, List.nil_append] at ho
      subst ho
      obtain ⟨s1, s2, s3⟩ := (sol_iff hv).1 hsol
      exact ⟨k + 1, cs, ⟨by omega, by omega⟩, rfl, s1, s2, s3, fun ds d1 d2 d3 => hmin ds ((sol_iff hv).2 ⟨d1, d2, d3⟩), fun m' h1 h2 ds d1 d2 d3 => by
        obtain ⟨q, rfl⟩ : ∃ q, m' = q + 1 := ⟨m' - 1, by omega⟩
        exact hno q (by omega) (hbef q (by omega)) ds d1 d2 d3⟩
    · simp only [e] at ho; cases ho
  · right
    rw [hfs]
    exact ⟨rfl, fun m' h1 h2 ds d1 d2 d3 => by
      obtain ⟨q, rfl⟩ : ∃ q, m' = q + 1 := ⟨m' - 1, by omega⟩
      exact hno q (by omega) (hnone q (by omega)) ds d1 d2 d3⟩
end Go.Proofs.YthfnedbpmdkdjaaDoor.D
namespace Go.Proofs.YthfnedbpmdkdjaaDoor.D
open Go Go.RowKit Go.Proofs.YthfnedbpmdkdjaaDoor.Eng Go.Proofs.YthfnedbpmdkdjaaDoor.Cm
set_option linter.unusedVariables false
set_option linter.unusedSimpArgs false
set_option linter.unusedSectionVars false
theorem orS_all : ((List.range 32).all fun s => (List.range 32).all fun t => decide (0 ≤ orS (s : Int) (t : Int) ∧ orS (s : Int) (t : Int) < 32) && (List.range 5).all fun j => (bitI (orS (s : Int) (t : Int)) j == 0) == (z0 s j && z0 t j)) = true := by kernel_rfl
theorem rest_all : all6 (fun n v => (IntKind.i64.wrap (BitVec.ofInt IntKind.i64.bits (((2 ^ n : Nat) : Int) - 1) &&& ~~~(BitVec.ofInt IntKind.i64.bits (v : Int))).toNat) == ((2 ^ n - 1 - v : Nat) : Int)) = true := by kernel_rfl
theorem rest_bits_all : all6 (fun n v => (List.range n).all fun k => memberF ((2 ^ n - 1 - v : Nat) : Int) (k : Int) == !(memberF (v : Int) (k : Int))) = true := by kernel_rfl
theorem orS_spec {s t : Int} (hs : 0 ≤ s ∧ s < 32) (ht : 0 ≤ t ∧ t < 32) : (0 ≤ orS s t ∧ orS s t < 32) ∧ ∀ j, j < 5 → (bitI (orS s t) j == 0) = ((bitI s j == 0) && (bitI t j == 0)) := by
  have h1 := all2 orS_all (s := s.toNat) (k := t.toNat) (by omega) (by omega)
  rw [castN hs.1, castN ht.1, Bool.and_eq_true] at h1
  refine ⟨of_decide_eq_true h1.1, fun j hj => ?_⟩
  have h2 := List.all_eq_true.1 h1.2 j (List.mem_range.2 hj)
  simp only [z0, castN hs.1, castN ht.1] at h2
  exact eq_of_beq h2
theorem some_spec {b : DBook} (hv : ValidD b) : ∃ v : Nat, v < 2 ^ b.loads.length ∧ someD b = (v : Int) ∧ ∀ j, j < 5 → ((bitI (v : Int) j == 0) = false ↔ ∃ s : Nat, s < 2 ^ b.loads.length ∧ togetherD b (s : Int) = true ∧ (bitI (s : Int) j == 0) = false) := by
  have hz : ∀ i, i < 5 → (bitI 0 i == 0) = true := fun i hi => List.all_eq_true.1 bit0_all i (List.mem_range.2 hi)
  have key : ∀ k : Nat, k ≤ 2 ^ b.loads.length → (0 ≤ (List.range k).foldl (fun (v : Int) (k : Nat) => bif (togetherD b (k : Int)) then orS v (k : Int) else v) 0 ∧ (List.range k).foldl (fun (v : Int) (k : Nat) => bif (togetherD b (k : Int)) then orS v (k : Int) else v) 0 < 32) ∧ ∀ j, j < 5 → ((bitI ((List.range k).foldl (fun (v : Int) (k : Nat) => bif (togetherD b (k : Int)) then orS v (k : Int) else v) 0) j == 0) = false ↔ ∃ s : Nat, s < k ∧ togetherD b (s : Int) = true ∧ (bitI (s : Int) j == 0) = false) := by
    intro k
    induction k with
    | zero =>
      intro _
      simp only [List.range_zero, List.foldl_nil]
      exact ⟨by omega, fun j hj => ⟨fun h => (by rw [hz j hj] at h; cases h), fun ⟨s, h, _⟩ => (by omega)⟩⟩
    | succ k ih =>
      intro hk
      obtain ⟨h1, h2⟩ := ih (by omega)
      have h32 : k < 32 := by have := pow_le5 hv.n.2; omega
      rw [List.range_succ, List.foldl_append]
      simp only [List.foldl_cons, List.foldl_nil]
      cases hT : togetherD b (k : Int) with
      | true =>
        obtain ⟨h3, h4⟩ := orS_spec h1 (t := (k : Int)) (by omega)
        refine ⟨h3, fun j hj => ?_⟩
        rw [cond_true, h4 j hj, Bool.and_eq_false_iff, h2 j hj]
        constructor
        · rintro (⟨s, h5, h6⟩ | h5)
          · exact ⟨s, by omega, h6⟩
          · exact ⟨k, by omega, hT, h5⟩
        · rintro ⟨s, h5, h6, h7⟩
          by_cases e : s = k
          · subst e; exact .inr h7
          · exact .inl ⟨s, by omega, h6, h7⟩
      | false =>
        refine ⟨h1, fun j hj => ?_⟩
        rw [cond_false, h2 j hj]
        constructor
        · rintro ⟨s, h5, h6⟩; exact ⟨s, by omega, h6⟩
        · rintro ⟨s, h5, h6, h7⟩
          by_cases e : s = k
          · subst e; rw [hT] at h6; cases h6
          · exact ⟨s, by omega, h6, h7⟩
  obtain ⟨h1, h2⟩ := key (2 ^ b.loads.length) (Nat.le_refl _)
  have he : someD b = (List.range (2 ^ b.loads.length)).foldl (fun (v : Int) (k : Nat) => bif (togetherD b (k : Int)) then orS v (k : Int) else v) 0 := rfl
  rw [← he] at h1 h2
  refine ⟨(someD b).toNat, ?_, by omega, fun j hj => by rw [castN h1.1]; exact h2 j hj⟩
  have h4 := List.all_eq_true.1 (List.all_eq_true.1 small_all b.loads.length (List.mem_range.2 (by have := hv.n; omega))) (someD b).toNat (List.mem_range.2 (by omega))
  rw [Bool.or_eq_true, decide_eq_true_eq] at h4
  rcases h4 with h4 | h4
  · exact h4
  · obtain ⟨k, hk, hb⟩ := List.any_eq_true.1 h4
    simp only [z0, castN h1.1, Bool.and_eq_true, decide_eq_true_eq, Bool.not_eq_true'] at hb
    obtain ⟨s, h5, _, h6⟩ := (h2 k (List.mem_range.1 hk)).1 hb.2
    have h7 := (setIs_M hv.n.2 h5).mem k (List.mem_range.1 hk)
    have h8 := (M_climb b.loads.length s).rng _ (h7.1 h6)
    omega
theorem never_M {b : DBook} (hv : ValidD b) {v : Nat} (h1 : v < 2 ^ b.loads.length) (h2 : someD b = (v : Int)) : neverA b = (M b.loads.length (2 ^ b.loads.length - 1 - v), 0) := by
  rw [never_eq (checkD_valid.2 hv), h2, all_pow hv.n.2, eq_of_beq (all6_spec rest_all hv.n.2 h1), listed_eq]
  rfl
theorem all_cross {b : DBook} (hv : ValidD b) {cs : List Int} {m : Nat} (hl : cs.length = b.loads.length) (hc : ∀ c ∈ cs, 0 ≤ c ∧ c < (m : Int)) (hg : Goes b cs m) {v : Nat} (h1 : v < 2 ^ b.loads.length) (h3 : ∀ j, j < 5 → ((bitI (v : Int) j == 0) = false ↔ ∃ s : Nat, s < 2 ^ b.loads.length ∧ togetherD b (s : Int) = true ∧ (bitI (s : Int) j == 0) = false)) : v = 2 ^ b.loads.length - 1 := by
  have h32 := pow_lt hv.n.2 h1
  have hbits : ∀ i, i < b.loads.length → (bitI (v : Int) i == 0) = false := fun i hi => by
    have hci := hc _ (getD_mem (z := 0) (show i < cs.length by omega))
    obtain ⟨j, hj⟩ : ∃ j : Nat, cs.getD i 0 = (j : Int) := ⟨(cs.getD i 0).toNat, by omega⟩
    obtain ⟨s, s1, s2, s3⟩ := mask_spec (cs := cs) (by rw [hl]; exact hv.n.2) j
    rw [hl] at s1
    have hgj := hg j (by omega)
    refine (h3 i (by have := hv.n; omega)).2 ⟨s, s1, by rw [← s2]; exact hgj.2, ?_⟩
    rw [← s2]
    refine ((mask_bits cs 0 j 0 (by have := hv.n; omega) (by omega)).2 i (by have := hv.n; omega)).2 (.inr ⟨by omega, by omega, ?_⟩)
    rw [Nat.sub_zero, ← hj, List.getD_eq_getElem?_getD, List.getD_eq_getElem?_getD, List.getElem?_eq_getElem (show i < cs.length by omega)]; rfl
  have hfull : all6 (fun n v => v == 2 ^ n - 1 || (List.range n).any fun k => z0 v k) = true := by kernel_rfl
  have h4 := all6_spec hfull hv.n.2 h1
  rw [Bool.or_eq_true] at h4
  rcases h4 with h4 | h4
  · exact eq_of_beq h4
  · obtain ⟨k, hk, hb⟩ := List.any_eq_true.1 h4
    unfold z0 at hb
    rw [hbits k (List.mem_range.1 hk)] at hb; cases hb
end Go.Proofs.YthfnedbpmdkdjaaDoor.D
namespace Go.Proofs.YthfnedbpmdkdjaaDoor.D
open Go Go.RowKit Go.Proofs.YthfnedbpmdkdjaaDoor.Eng Go.Proofs.YthfnedbpmdkdjaaDoor.Cm
set_option linter.unusedVariables false
set_option linter.unusedSimpArgs false
set_option linter.unusedSectionVars false
theorem at_spec (l : List Int) (n : Int) : (atF l n = -1 ∧ n ∉ l) ∨ ∃ i : Nat, i < l.length ∧ atF l n = (i : Int) ∧ l.getD i 0 = n := by
  unfold atF
  rw [loopR_find (c := atF_c1 l n) (b := atF_b1 l n) (fun k => l.getD k 0 == n) (fun k => (k : Int)) (fun k hk => by simp only [atF_c1]; rw [decide_eq_true]; omega) (fun k hk => rfl)]
  cases hf : (List.range l.length).find? fun k => l.getD k 0 == n with
  | none =>
    refine .inl ⟨rfl, fun hm => ?_⟩
    obtain ⟨i, hi, rfl⟩ := List.mem_iff_getElem.1 hm
    have := List.find?_eq_none.1 hf i (List.mem_range.2 hi)
    rw [List.getD_eq_getElem?_getD, List.getElem?_eq_getElem hi] at this
    simp at this
  | some i => exact .inr ⟨i, List.mem_range.1 (List.mem_of_find?_eq_some hf), rfl, by have h9 := List.find?_some hf; exact eq_of_beq h9⟩
end Go.Proofs.YthfnedbpmdkdjaaDoor.D
namespace Go.Proofs.YthfnedbpmdkdjaaDoor.D
open Go Go.RowKit Go.Proofs.YthfnedbpmdkdjaaDoor.Eng Go.Proofs.YthfnedbpmdkdjaaDoor.Cm
set_option linter.unusedVariables false
set_option linter.unusedSimpArgs false
set_option linter.unusedSectionVars false
def DeckNeverL_c1 (b : DBook) (n : Int) (k1 : Nat) : Int → Bool := fun v1_1 => decide ((k1 : Int) < (IntKind.i64.wrap (1 * 2 ^ (min (b.loads.length : Int).toNat IntKind.i64.bits))))
def DeckNeverL_b1 (b : DBook) (n : Int) (k1 : Nat) : Int → Bd Int Bool := fun v1_1 => .go (bif (canL b (membersF (k1 : Int) (b.loads.length : Int))) then IntKind.i64.wrap (BitVec.ofInt IntKind.i64.bits v1_1 ||| BitVec.ofInt IntKind.i64.bits (k1 : Int)).toNat else v1_1)
def DeckNeverL_c2 (b : DBook) (n : Int) (u1_0 : Int) (k2 : Nat) : Unit → Bool := fun _ => (canL b (chosenL b n)) && (decide ((k2 : Int) < ((chosenL b n).length : Int)))
def DeckNeverL_b2 (b : DBook) (n : Int) (u1_0 : Int) (k2 : Nat) : Unit → Bd Unit Bool := fun _ => (bif decide ((atF (neverA b).1 ((chosenL b n).getD k2 0)) ≥ 0) then .ret false else .go ())
def DeckNeverL (b : DBook) (n : Int) : Bool :=
  (bif !(soundL b) then (((neverA b).2 == 30) && (((neverA b).1.length : Int) == 0)) && stowedL else (bif ((((neverA b).2 != 0) || (((fewestA b).2 != 0) && ((fewestA b).2 != 4))) || (!(climbsF (neverA b).1 (b.loads.length : Int)))) || (((fewestA b).2 == 0) && (decide (((neverA b).1.length : Int) > 0))) then false else (match loopR (DeckNeverL_c1 b n) (DeckNeverL_b1 b n) (2 ^ b.loads.length) 0 0 with | .brk u1_0 => (match loopR (DeckNeverL_c2 b n u1_0) (DeckNeverL_b2 b n u1_0) (chosenL b n).length 0 () with | .brk () => (u1_0 == (IntKind.i64.wrap ((IntKind.i64.wrap ((IntKind.i64.wrap (1 * 2 ^ (min (b.loads.length : Int).toNat IntKind.i64.bits))) - 1)) - (setOfF (neverA b).1)))) && stowedL | .ret r => r) | .ret r => r)))
theorem DeckNeverL_calls (g0 : Value) (b : DBook) (n : Int) (w : World) (r0 : Reads w g0 3 b.loads encLoad zLoad) (hnb : NobodyAt w) (hla : LanesAt w) : Calls Tryd.prog 12 #[.agg #[g0, iv b.rule, iv b.most], iv n] w fun e w' => e = .returned (.bool (DeckNeverL b n)) ∧ Below w.heap.size w w' := by
  refine calls_of_WP (cx := cx0 w (vn [g0]) 1) (n := vn [g0]) (vs := [.g [.ref 0, .int .i64 b.rule, .int .i64 b.most], .s (.int .i64 n)]) (hp := [(0, .sl .ro 61 3 b.loads encLoad zLoad), (1, .pf NobodyAt (· = 1)), (2, .pf LanesAt (· = 0))]) (nx := 3) tt_ok Tryd.func12 rfl rfl rfl (by kernel_rfl) (HSat_args (vn_one (by simp [r0.one])) (by decide) ⟨⟨⟨fun _ => rfl, by decide, r0⟩, (Nat.le_of_ble_eq_true rfl)⟩, ⟨⟨hnb, fun w1 w2 h1 hw => (hw 1 rfl).trans h1, fun g hg => by cases hg; exact (Array.getElem?_eq_some_iff.1 hnb).1⟩, (Nat.le_of_ble_eq_true rfl)⟩, ⟨⟨hla, fun w1 w2 h1 hw => (hw 0 rfl).trans h1, fun g hg => by cases hg; exact (Array.getElem?_eq_some_iff.1 hla).1⟩, (Nat.le_of_ble_eq_true rfl)⟩, trivial⟩) (vsOk (by kernel_rfl)) ?_
  have hl0 := Reads.len r0
  refine WP_seq (WP_region (WPO_all tt_ok (by kernel_rfl) ?_))
  refine WP_seq (WP_region (WPO_run tt_ok 1 (by kernel_rfl) ?_))
  refine CALLR 47 [.g [.ref 0, .int .i64 b.rule, .int .i64 b.most]] (.t [(false, [.ref 4]), (false, [.int .i64 (neverA b).2])]) 3 1 (neverA b).1 encI 0 4 (by kernel_rfl) (by kernel_rfl) (goes_of (by kernel_rfl)) (by kernel_rfl) (by kernel_rfl) (by decide) (fun _ => rfl) (fun nV w h => (neverA_calls (nV 0) b w (h.reads (id := 0) (kd := .ro) (e := 61) (by kernel_rfl)) (h.ents (1, .pf NobodyAt (· = 1)) (fnd_mem (by kernel_rfl))).1 (h.ents (2, .pf LanesAt (· = 0)) (fnd_mem (by kernel_rfl))).1 ).mono fun e w' h1 => weak_fresh h1) ?_
  refine WPO_all tt_ok (by kernel_rfl) ?_
  refine WP_seq (WP_seq (WP_region (WPO_run tt_ok 1 (by kernel_rfl) ?_)))
  refine CALL 26 [.g [.ref 0, .int .i64 b.rule, .int .i64 b.most]] (.s (.bool (soundL b))) [] (by kernel_rfl) (goes_of (by kernel_rfl)) (by kernel_rfl) (by kernel_rfl) (fun hG nV w h => soundL_calls (nV 0) b w (h.reads (id := 0) (kd := .ro) (e := 61) (by kernel_rfl)) ) ?_
  refine WPO_all tt_ok (by kernel_rfl) ?_
  refine WP_cond (!(soundL b)) (by kernel_rfl) (fun hc2 => ?_) (fun hc2 => ?_)
  · have hc2' := hc2; try simp only [Bool.and_eq_true, Bool.or_eq_true, Bool.and_eq_false_iff, Bool.or_eq_false_iff, Bool.not_eq_true', Bool.not_eq_false', decide_eq_true_eq, decide_eq_false_iff_not, beq_iff_eq, beq_eq_false_iff_ne, bne_iff_ne, bne_eq_false_iff_eq, ne_eq] at hc2'
    refine WP_seq (WP_region (WPO_run tt_ok 8 (by kernel_rfl) ?_))
    refine CALL 21 [] (.s (.bool stowedL)) [(((neverA b).2 == 30) && (((neverA b).1.length : Int) == 0), true)] (by kernel_rfl) (goes_of (by kernel_rfl)) (by kernel_rfl) (by kernel_rfl) (fun hG nV w h => stowedL_calls   w (h.ents (1, .pf NobodyAt (· = 1)) (fnd_mem (by kernel_rfl))).1 (h.ents (2, .pf LanesAt (· = 0)) (fnd_mem (by kernel_rfl))).1 ) ?_
    refine WPO_all tt_ok (by kernel_rfl) ?_
    refine WP_ret ?_
    exact ⟨.s (.bool ((((neverA b).2 == 30) && (((neverA b).1.length : Int) == 0)) && stowedL)), by kernel_rfl, fun nV w' h => ⟨by rw [show DeckNeverL b n = ((((neverA b).2 == 30) && (((neverA b).1.length : Int) == 0)) && stowedL) from by unfold DeckNeverL; simp only [hc2, cond_true, cond_false]]; rfl, h.bel⟩⟩
  have hc2' := hc2; try simp only [Bool.and_eq_true, Bool.or_eq_true, Bool.and_eq_false_iff, Bool.or_eq_false_iff, Bool.not_eq_true', Bool.not_eq_false', decide_eq_true_eq, decide_eq_false_iff_not, beq_iff_eq, beq_eq_false_iff_ne, bne_iff_ne, bne_eq_false_iff_eq, ne_eq] at hc2'
  refine WP_skip ?_
  have hv : ValidD b := sound_valid (by assumption)
  have hb5 := hv.n.2
  have hn1 := hv.n.1
  have hpw := pow_small hb5
  have hpl := pow_le5 hb5
  have hnp := never_pos b
  refine WP_seq (WP_region (WPO_run tt_ok 1 (by kernel_rfl) ?_))
  refine CALLR 46 [.g [.ref 0, .int .i64 b.rule, .int .i64 b.most]] (.t [(false, [.ref 5]), (false, [.int .i64 (fewestA b).2])]) 3 1 (fewestA b).1 encI 0 5 (by kernel_rfl) (by kernel_rfl) (goes_of (by kernel_rfl)) (by kernel_rfl) (by kernel_rfl) (by decide) (fun _ => rfl) (fun nV w h => (fewestA_calls (nV 0) b w (h.reads (id := 0) (kd := .ro) (e := 61) (by kernel_rfl)) (h.ents (1, .pf NobodyAt (· = 1)) (fnd_mem (by kernel_rfl))).1 (h.ents (2, .pf LanesAt (· = 0)) (fnd_mem (by kernel_rfl))).1 ).mono fun e w' h1 => weak_fresh h1) ?_
  refine WPO_all tt_ok (by kernel_rfl) ?_
  refine WP_seq (WP_seq (WP_region (WPO_run tt_ok 15 (by kernel_rfl) ?_)))
  refine CALL 50 [.s (.ref 4), .s (.int .i64 (b.loads.length : Int))] (.s (.bool (climbsF (neverA b).1 (b.loads.length : Int)))) [(((neverA b).2 != 0) || (((fewestA b).2 != 0) && ((fewestA b).2 != 4)), false)] (by kernel_rfl) (goes_of (by kernel_rfl)) (by kernel_rfl) (by kernel_rfl) (fun hG nV w h => climbsF_calls (nV 4) (neverA b).1 (b.loads.length : Int) w (h.reads (id := 4) (kd := .ro) (e := 3) (by kernel_rfl)) ) ?_
  refine WPO_all tt_ok (by kernel_rfl) ?_
  refine WP_cond (((((neverA b).2 != 0) || (((fewestA b).2 != 0) && ((fewestA b).2 != 4))) || (!(climbsF (neverA b).1 (b.loads.length : Int)))) || (((fewestA b).2 == 0) && (decide (((neverA b).1.length : Int) > 0)))) (by kernel_rfl) (fun hc4 => ?_) (fun hc4 => ?_)
  · have hc4' := hc4; try simp only [Bool.and_eq_true, Bool.or_eq_true, Bool.and_eq_false_iff, Bool.or_eq_false_iff, Bool.not_eq_true', Bool.not_eq_false', decide_eq_true_eq, decide_eq_false_iff_not, beq_iff_eq, beq_eq_false_iff_ne, bne_iff_ne, bne_eq_false_iff_eq, ne_eq] at hc4'
    refine WP_seq (WP_region (WPO_all tt_ok (by kernel_rfl) ?_))
    refine WP_ret ?_
    exact ⟨.s (.bool false), by kernel_rfl, fun nV w' h => ⟨by rw [show DeckNeverL b n = false from by unfold DeckNeverL; simp only [hc2, hc4, cond_true, cond_false]]; rfl, h.bel⟩⟩
  have hc4' := hc4; try simp only [Bool.and_eq_true, Bool.or_eq_true, Bool.and_eq_false_iff, Bool.or_eq_false_iff, Bool.not_eq_true', Bool.not_eq_false', decide_eq_true_eq, decide_eq_false_iff_not, beq_iff_eq, beq_eq_false_iff_ne, bne_iff_ne, bne_eq_false_iff_eq, ne_eq] at hc4'
  refine WP_skip ?_
  refine WP_seq (WP_region (WPO_all tt_ok (by kernel_rfl) ?_))
  refine WP_seq (WP_seq (WP_region (WPO_all tt_ok (by kernel_rfl) ?_)))
  refine WP_loopA (ρ := Bool) (DeckNeverL_c1 b n) (DeckNeverL_b1 b n) (2 ^ b.loads.length) 0 (fun k : Nat => (k : Int)) (fun (ci : Int) (zz : Int) => ⟨117, [(10, [], .s (.int .i64 ci)), (9, [], .s (.int .i64 zz)), (5, [], .s (.ref 4)), (2, [], .s (.p 3 0)), (1, [], .s (.int .i64 n))], [(5, .sl .ro 3 1 (fewestA b).1 encI 0), (4, .sl .ro 3 1 (neverA b).1 encI 0), (3, .box 24 [.ref 0, .int .i64 b.rule, .int .i64 b.most]), (0, .sl .ro 61 3 b.loads encLoad zLoad), (1, .pf NobodyAt (· = 1)), (2, .pf LanesAt (· = 0))], 6, []⟩) (fun zz : Int => ⟨117, [(9, [], .s (.int .i64 zz)), (5, [], .s (.ref 4)), (2, [], .s (.p 3 0)), (1, [], .s (.int .i64 n))], [(5, .sl .ro 3 1 (fewestA b).1 encI 0), (4, .sl .ro 3 1 (neverA b).1 encI 0), (3, .box 24 [.ref 0, .int .i64 b.rule, .int .i64 b.most]), (0, .sl .ro 61 3 b.loads encLoad zLoad), (1, .pf NobodyAt (· = 1)), (2, .pf LanesAt (· = 0))], 6, []⟩) (fun k zz => True) trivial ⟨0, rfl, Le_sel (ts := [10, 9, 5, 2, 1]) (ids := [5, 4, 3, 0, 1, 2]) (nx := 6) (by kernel_rfl)⟩ ?_ ?_
  · intro k1 v1_1 hn1 hp1 hi1 Q1 hq1 ho1
    refine WP_seq (WP_seq (WP_region (WPO_run tt_ok 4 (by kernel_rfl) ?_)))
    refine BIN .shl 3 (.const (.int .i64 1)) (.tmp 67) (.s (.int .i64 1)) (.s (.int .i64 (b.loads.length : Int))) (.s (.int .i64 (IntKind.i64.wrap (1 * 2 ^ (min (b.loads.length : Int).toNat IntKind.i64.bits))))) [] (by kernel_rfl) (by kernel_rfl) (by kernel_rfl) (fun _ => BinOk_shl (by omega)) ?_
    refine WPO_all tt_ok (by kernel_rfl) ?_
    refine WP_cond (decide ((k1 : Int) < (IntKind.i64.wrap (1 * 2 ^ (min (b.loads.length : Int).toNat IntKind.i64.bits))))) (by kernel_rfl) (fun hc5 => ?_) (fun hc5 => ?_)
    rotate_left
    · refine WP_exit ?_
      show Q1 (.exit 0) _
      exact LA_exit hq1 v1_1 (loopR_end hi1 hc5) ⟨k1, hn1, hp1⟩ (Le_sel (ts := [9, 5, 2, 1]) (ids := [5, 4, 3, 0, 1, 2]) (nx := 6) (by kernel_rfl))
    have hc5' := of_decide_eq_true hc5
    have hk1 : k1 < 2 ^ b.loads.length := by rw [hpw] at hc5'; omega
    refine WP_skip ?_
    refine WP_seq (WP_block ?_)
    refine WP_seq (WP_region (WPO_run tt_ok 4 (by kernel_rfl) ?_))
    refine CALLO 57 [.s (.int .i64 (k1 : Int)), .s (.int .i64 (b.loads.length : Int))] (.s (.ref 6)) 3 1 (membersF (k1 : Int) (b.loads.length : Int)) encI 0 6 (by kernel_rfl) (by kernel_rfl) (goes_of (by kernel_rfl)) (by kernel_rfl) (by kernel_rfl) (fun _ => rfl) ((fun nV w h => membersF_calls  (k1 : Int) (b.loads.length : Int) w  (by first | assumption | omega))) ?_
    refine WPO_all tt_ok (by kernel_rfl) ?_
    refine WP_seq (WP_region (WPO_run tt_ok 2 (by kernel_rfl) ?_))
    refine CALL 51 [.g [.ref 0, .int .i64 b.rule, .int .i64 b.most], .s (.ref 6)] (.s (.bool (canL b (membersF (k1 : Int) (b.loads.length : Int))))) [] (by kernel_rfl) (goes_of (by kernel_rfl)) (by kernel_rfl) (by kernel_rfl) (fun hG nV w h => canL_calls (nV 0) (nV 6) b (membersF (k1 : Int) (b.loads.length : Int)) w (h.reads (id := 0) (kd := .ro) (e := 61) (by kernel_rfl)) (h.reads (id := 6) (kd := .own) (e := 3) (by kernel_rfl)) (h.ents (1, .pf NobodyAt (· = 1)) (fnd_mem (by kernel_rfl))).1 (h.ents (2, .pf LanesAt (· = 0)) (fnd_mem (by kernel_rfl))).1 ) ?_
    refine WPO_nil ?_
    refine WP_join ((canL b (membersF (k1 : Int) (b.loads.length : Int)))) (fun q => ⟨117, [(9, [], .s (.int .i64 (bif q then IntKind.i64.wrap (BitVec.ofInt IntKind.i64.bits v1_1 ||| BitVec.ofInt IntKind.i64.bits (k1 : Int)).toNat else v1_1))), (10, [], .s (.int .i64 (k1 : Int))), (5, [], .s (.ref 4)), (2, [], .s (.p 3 0)), (1, [], .s (.int .i64 n))], [(6, .sl .own 3 1 (membersF (k1 : Int) (b.loads.length : Int)) encI 0), (5, .sl .ro 3 1 (fewestA b).1 encI 0), (4, .sl .ro 3 1 (neverA b).1 encI 0), (3, .box 24 [.ref 0, .int .i64 b.rule, .int .i64 b.most]), (0, .sl .ro 61 3 b.loads encLoad zLoad), (1, .pf NobodyAt (· = 1)), (2, .pf LanesAt (· = 0))], 7, []⟩) (by kernel_rfl) (fun hc7 => ?_) (fun hc7 => ?_) ?_
    · refine WP_region (WPO_all tt_ok (by kernel_rfl) ?_)
      exact Le_sel (ts := [9, 10, 5, 2, 1]) (ids := [6, 5, 4, 3, 0, 1, 2]) (nx := 7) (by kernel_rfl)
    · refine WP_skip ?_
      exact Le_sel (ts := [9, 10, 5, 2, 1]) (ids := [6, 5, 4, 3, 0, 1, 2]) (nx := 7) (by kernel_rfl)
    refine WP_region (WPO_all tt_ok (by kernel_rfl) ?_)
    show Q1 .normal _
    exact LA_go hq1 (ci := IntKind.i64.wrap ((k1 : Int) + 1)) (bif (canL b (membersF (k1 : Int) (b.loads.length : Int))) then IntKind.i64.wrap (BitVec.ofInt IntKind.i64.bits v1_1 ||| BitVec.ofInt IntKind.i64.bits (k1 : Int)).toNat else v1_1) hk1 (by show _ = ((k1 + 1 : Nat) : Int); rw [wrapI (by omega) (by omega)]; omega) (loopR_go hi1 hk1 hc5 (rfl)) trivial (Le_sel (ts := [10, 9, 5, 2, 1]) (ids := [5, 4, 3, 0, 1, 2]) (nx := 6) (by kernel_rfl))
  intro u1_0 hR1 hP1 s' hl
  refine WP_le hl ?_
  clear hl s'
  refine WP_seq (WP_region (WPO_run tt_ok 2 (by kernel_rfl) ?_))
  refine CALLO 28 [.g [.ref 0, .int .i64 b.rule, .int .i64 b.most], .s (.int .i64 n)] (.s (.ref 6)) 3 1 (chosenL b n) encI 0 6 (by kernel_rfl) (by kernel_rfl) (goes_of (by kernel_rfl)) (by kernel_rfl) (by kernel_rfl) (fun _ => rfl) ((fun nV w h => chosenL_calls (nV 0) b n w (h.reads (id := 0) (kd := .ro) (e := 61) (by kernel_rfl)) (by first | assumption | omega))) ?_
  refine WPO_all tt_ok (by kernel_rfl) ?_
  refine WP_seq (WP_seq (WP_region (WPO_all tt_ok (by kernel_rfl) ?_)))
  refine WP_fact (p := ((chosenL b n).length : Int) ≤ 9223372036854775807) (fun nV aV wV hs => Reads.len (sz := 1) (enc := encI) (z := 0) (hs.heap.reads (id := 6) (kd := .own) (e := 3) (by kernel_rfl))) (fun hN2 => ?_)
  refine WP_loopA (ρ := Bool) (DeckNeverL_c2 b n u1_0) (DeckNeverL_b2 b n u1_0) (chosenL b n).length () (fun k : Nat => (k : Int)) (fun (ci : Int) (zz : Unit) => ⟨117, [(13, [], .s (.int .i64 ci)), (12, [], .s (.ref 6)), (9, [], .s (.int .i64 u1_0)), (5, [], .s (.ref 4)), (2, [], .s (.p 3 0))], [(6, .sl .own 3 1 (chosenL b n) encI 0), (5, .sl .ro 3 1 (fewestA b).1 encI 0), (4, .sl .ro 3 1 (neverA b).1 encI 0), (3, .box 24 [.ref 0, .int .i64 b.rule, .int .i64 b.most]), (0, .sl .ro 61 3 b.loads encLoad zLoad), (1, .pf NobodyAt (· = 1)), (2, .pf LanesAt (· = 0))], 7, []⟩) (fun zz : Unit => ⟨117, [(9, [], .s (.int .i64 u1_0)), (5, [], .s (.ref 4)), (2, [], .s (.p 3 0))], [(6, .sl .own 3 1 (chosenL b n) encI 0), (5, .sl .ro 3 1 (fewestA b).1 encI 0), (4, .sl .ro 3 1 (neverA b).1 encI 0), (3, .box 24 [.ref 0, .int .i64 b.rule, .int .i64 b.most]), (0, .sl .ro 61 3 b.loads encLoad zLoad), (1, .pf NobodyAt (· = 1)), (2, .pf LanesAt (· = 0))], 7, []⟩) (fun k zz => True) trivial ⟨0, rfl, Le_sel (ts := [13, 12, 9, 5, 2]) (ids := [6, 5, 4, 3, 0, 1, 2]) (nx := 7) (by kernel_rfl)⟩ ?_ ?_
  · intro k2 zz hn2 hp2 hi2 Q2 hq2 ho2
    refine WP_seq (WP_seq (WP_region (WPO_run tt_ok 2 (by kernel_rfl) ?_)))
    refine CALL 51 [.g [.ref 0, .int .i64 b.rule, .int .i64 b.most], .s (.ref 6)] (.s (.bool (canL b (chosenL b n)))) [] (by kernel_rfl) (goes_of (by kernel_rfl)) (by kernel_rfl) (by kernel_rfl) (fun hG nV w h => canL_calls (nV 0) (nV 6) b (chosenL b n) w (h.reads (id := 0) (kd := .ro) (e := 61) (by kernel_rfl)) (h.reads (id := 6) (kd := .own) (e := 3) (by kernel_rfl)) (h.ents (1, .pf NobodyAt (· = 1)) (fnd_mem (by kernel_rfl))).1 (h.ents (2, .pf LanesAt (· = 0)) (fnd_mem (by kernel_rfl))).1 ) ?_
    refine WPO_all tt_ok (by kernel_rfl) ?_
    refine WP_cond ((canL b (chosenL b n)) && (decide ((k2 : Int) < ((chosenL b n).length : Int)))) (by kernel_rfl) (fun hc8 => ?_) (fun hc8 => ?_)
    rotate_left
    · refine WP_exit ?_
      show Q2 (.exit 2) _
      exact LA_exit hq2 () (loopR_end hi2 hc8) ⟨k2, hn2, hp2⟩ (Le_sel (ts := [9, 5, 2]) (ids := [6, 5, 4, 3, 0, 1, 2]) (nx := 7) (by kernel_rfl))
    have hc8' := hc8; try simp only [Bool.and_eq_true, Bool.or_eq_true, Bool.and_eq_false_iff, Bool.or_eq_false_iff, Bool.not_eq_true', Bool.not_eq_false', decide_eq_true_eq, decide_eq_false_iff_not, beq_iff_eq, beq_eq_false_iff_ne, bne_iff_ne, bne_eq_false_iff_eq, ne_eq] at hc8'
    have hk2 : k2 < (chosenL b n).length := by omega
    refine WP_skip ?_
    refine WP_seq (WP_block ?_)
    refine WP_seq (WP_region (WPO_run tt_ok 3 (by kernel_rfl) ?_))
    refine IX tt_ok (k2 : Int) (chosenL b n).length [] (by kernel_rfl) (fun hG => ⟨by omega, by omega⟩) ?_
    refine WPO_run tt_ok 1 (by kernel_rfl) ?_
    refine CALL 56 [.s (.ref 4), .s (.int .i64 ((chosenL b n).getD k2 0))] (.s (.int .i64 (atF (neverA b).1 ((chosenL b n).getD k2 0)))) [] (by kernel_rfl) (goes_of (by kernel_rfl)) (by kernel_rfl) (by kernel_rfl) (fun hG nV w h => atF_calls (nV 4) (neverA b).1 ((chosenL b n).getD k2 0) w (h.reads (id := 4) (kd := .ro) (e := 3) (by kernel_rfl)) ) ?_
    refine WPO_all tt_ok (by kernel_rfl) ?_
    refine WP_cond (decide ((atF (neverA b).1 ((chosenL b n).getD k2 0)) ≥ 0)) (by kernel_rfl) (fun hc10 => ?_) (fun hc10 => ?_)
    · have hc10' := of_decide_eq_true hc10
      refine WP_seq (WP_region (WPO_all tt_ok (by kernel_rfl) ?_))
      refine WP_ret ?_
      show Q2 .ret _
      refine LA_ret hq2 ?_
      have he11 := loopR_ret (r := false) hi2 hk2 hc8 (by unfold DeckNeverL_b2; simp only [hc10, cond_true, cond_false])
      exact ⟨.s (.bool false), by kernel_rfl, fun nV w' h => ⟨by rw [show DeckNeverL b n = false from by unfold DeckNeverL; simp only [hc2, hc4, hR1, he11, cond_true, cond_false]]; rfl, h.bel⟩⟩
    have hc10' := of_decide_eq_false hc10
    refine WP_skip ?_
    refine WP_region (WPO_all tt_ok (by kernel_rfl) ?_)
    show Q2 .normal _
    exact LA_go hq2 (ci := IntKind.i64.wrap ((k2 : Int) + 1)) () hk2 (by show _ = ((k2 + 1 : Nat) : Int); rw [wrapI (by omega) (by omega)]; omega) (loopR_go hi2 hk2 hc8 (by unfold DeckNeverL_b2; simp only [hc10, cond_true, cond_false])) trivial (Le_sel (ts := [13, 12, 9, 5, 2]) (ids := [6, 5, 4, 3, 0, 1, 2]) (nx := 7) (by kernel_rfl))
  intro zz hR2 hP2 s' hl
  refine WP_le hl ?_
  clear hl s'
  refine WP_seq (WP_draw (by kernel_rfl) (by kernel_rfl) ?_)
  refine WPQ_run tt_ok 4 (by kernel_rfl) ?_
  refine QBIN .shl 3 (.const (.int .i64 1)) (.tmp 107) (.s (.int .i64 1)) (.s (.int .i64 (b.loads.length : Int))) (.s (.int .i64 (IntKind.i64.wrap (1 * 2 ^ (min (b.loads.length : Int).toNat IntKind.i64.bits))))) [] (by kernel_rfl) (by kernel_rfl) (by kernel_rfl) (fun _ => BinOk_shl (by omega)) ?_
  refine WPQ_run tt_ok 2 (by kernel_rfl) ?_
  refine QCALL 58 [.s (.ref 4)] (.s (.int .i64 (setOfF (neverA b).1))) [] (by kernel_rfl) (goes_of (by kernel_rfl)) (by kernel_rfl) (by kernel_rfl) (fun hG nV w h => setOfF_calls (nV 4) (neverA b).1 w (h.reads (id := 4) (kd := .ro) (e := 3) (by kernel_rfl)) (by first | assumption | omega)) ?_
  refine WPQ_run tt_ok 3 (by kernel_rfl) ?_
  refine QCALL 21 [] (.s (.bool stowedL)) [(u1_0 == (IntKind.i64.wrap ((IntKind.i64.wrap ((IntKind.i64.wrap (1 * 2 ^ (min (b.loads.length : Int).toNat IntKind.i64.bits))) - 1)) - (setOfF (neverA b).1))), true)] (by kernel_rfl) (goes_of (by kernel_rfl)) (by kernel_rfl) (by kernel_rfl) (fun hG nV w h => stowedL_calls   w (h.ents (1, .pf NobodyAt (· = 1)) (fnd_mem (by kernel_rfl))).1 (h.ents (2, .pf LanesAt (· = 0)) (fnd_mem (by kernel_rfl))).1 ) ?_
  refine WPQ_all tt_ok (by kernel_rfl) ?_
  refine WP_ret ?_
  exact ⟨.s (.bool ((u1_0 == (IntKind.i64.wrap ((IntKind.i64.wrap ((IntKind.i64.wrap (1 * 2 ^ (min (b.loads.length : Int).toNat IntKind.i64.bits))) - 1)) - (setOfF (neverA b).1)))) && stowedL)), by kernel_rfl, fun nV w' h => ⟨by rw [show DeckNeverL b n = ((u1_0 == (IntKind.i64.wrap ((IntKind.i64.wrap ((IntKind.i64.wrap (1 * 2 ^ (min (b.loads.length : Int).toNat IntKind.i64.bits))) - 1)) - (setOfF (neverA b).1)))) && stowedL) from by unfold DeckNeverL; simp only [hc2, hc4, hR1, hR2, cond_true, cond_false]]; rfl, h.bel⟩⟩
end Go.Proofs.YthfnedbpmdkdjaaDoor.D
namespace Go.Proofs.YthfnedbpmdkdjaaDoor.D
open Go Go.RowKit Go.Proofs.YthfnedbpmdkdjaaDoor.Eng Go.Proofs.YthfnedbpmdkdjaaDoor.Cm
set_option linter.unusedVariables false
set_option linter.unusedSimpArgs false
set_option linter.unusedSectionVars false
theorem DeckNever_true (b : DBook) (n : Int) : DeckNeverL b n = true := by
  unfold DeckNeverL
  rw [stowedL_true]
  cases hs : soundL b with
  | false =>
    rw [never_bad (sound_not (by rw [hs]; rfl))]
    rfl
  | true =>
    have hv := sound_iff.1 hs
    have hn := hv.n
    have hpos : 0 < 2 ^ b.loads.length := Nat.pow_pos (by decide)
    have hpl := pow_le5 hv.n.2
    obtain ⟨v, v1, v2, v3⟩ := some_spec hv
    obtain ⟨t, t1, t2⟩ := chosen_M hv n
    have hw : 2 ^ b.loads.length - 1 - v < 2 ^ b.loads.length := by omega
    rw [never_M hv v1 v2]
    simp only [Bool.not_true, cond_false]
    rw [climbs_M hv.n.2 hw]
    have hf : (fewestA b).2 = 0 ∨ (fewestA b).2 = 4 := by
      rcases fewest_spec hv with ⟨m, cs, _, e, _⟩ | ⟨e, _⟩
      · rw [e]; exact .inl rfl
      · rw [e]; exact .inr rfl
    have hfn : ((fewestA b).2 == 0 && decide (((M b.loads.length (2 ^ b.loads.length - 1 - v)).length : Int) > 0)) = false := by
      rcases fewest_spec hv with ⟨m, cs, _, e, c1, c2, c3, _⟩ | ⟨e, _⟩
      · have hfull := all_cross hv c1 c2 c3 v1 v3
        have h0 := (M_empty hv.n.2 hw).2 (by omega)
        rw [h0, e]; rfl
      · rw [e]; rfl
    have hcond : (((((0 : Int) != 0) || (((fewestA b).2 != 0) && ((fewestA b).2 != 4))) || (!true)) || (((fewestA b).2 == 0) && (decide (((M b.loads.length (2 ^ b.loads.length - 1 - v)).length : Int) > 0)))) = false := by
      rw [hfn]
      rcases hf with h | h <;> rw [h] <;> rfl
    rw [hcond, cond_false]
    have hl1 : loopR (DeckNeverL_c1 b n) (DeckNeverL_b1 b n) (2 ^ b.loads.length) 0 0 = .brk (v : Int) := by
      rw [loopR_foldl (c := DeckNeverL_c1 b n) (b := DeckNeverL_b1 b n) (fun (k : Nat) (v : Int) => bif (togetherD b (k : Int)) then orS v (k : Int) else v) (fun k w hk => by simp only [DeckNeverL_c1]; rw [pow_small hv.n.2, decide_eq_true]; omega) (fun k w hk => by
        simp only [DeckNeverL_b1]
        have := can_M hv hk
        unfold M at this
        rw [this]; rfl)]
      rw [← v2]; rfl
    rw [hl1]
    simp only
    have hl2 : loopR (DeckNeverL_c2 b n (v : Int)) (DeckNeverL_b2 b n (v : Int)) (chosenL b n).length 0 () = .brk () := by
      cases hT : togetherD b (t : Int) with
      | false =>
        cases hlen : (chosenL b n).length with
        | zero => rfl
        | succ q =>
          simp only [loopR, DeckNeverL_c2, t2, can_M hv t1, hT, Bool.false_and, cond_false]
      | true =>
        rw [loopR_some (c := DeckNeverL_c2 b n (v : Int)) (b := DeckNeverL_b2 b n (v : Int)) (fun _ => none) (fun k hk => by
          simp only [DeckNeverL_c2]
          rw [t2, can_M hv t1, hT, Bool.true_and, decide_eq_true]
          rw [t2] at hk; omega) (fun k hk => by
          simp only [DeckNeverL_b2]
          rw [never_M hv v1 v2]
          rw [t2] at hk ⊢
          have hx := getD_mem (z := 0) hk
          have hr := (M_climb b.loads.length t).rng _ hx
          rcases at_spec (M b.loads.length (2 ^ b.loads.length - 1 - v)) ((M b.loads.length t).getD k 0) with ⟨e, _⟩ | ⟨i, hi, _, e⟩
          · rw [e]; rfl
          · exfalso
            have hm : (M b.loads.length t).getD k 0 ∈ M b.loads.length (2 ^ b.loads.length - 1 - v) := by rw [← e]; exact getD_mem hi
            obtain ⟨j, hj⟩ : ∃ j : Nat, (M b.loads.length t).getD k 0 = (j : Int) := ⟨((M b.loads.length t).getD k 0).toNat, by omega⟩
            rw [hj] at hm hx hr
            have hb := ((setIs_M hv.n.2 t1).mem j (by omega)).2 hx
            have hbv := (v3 j (by omega)).2 ⟨t, t1, hT, hb⟩
            have h5 := (members_mem.1 hm).2.2
            have h6 := eq_of_beq (List.all_eq_true.1 (all6_spec rest_bits_all hv.n.2 v1) j (List.mem_range.2 (by omega)))
            rw [h6, mem_bits (by omega) (by omega), hbv] at h5
            cases h5)]
        have : (List.range (chosenL b n).length).findSome? (fun _ => (none : Option Bool)) = none := List.findSome?_eq_none_iff.2 fun _ _ => rfl
        rw [this]
    simp only [hl2]
    rw [pow_small hv.n.2, setOf_M hv.n.2 hw]
    rw [wrapI (x := ((2 ^ b.loads.length : Nat) : Int) - 1) (by omega) (by omega), wrapI (by omega) (by omega)]
    rw [Bool.and_true, beq_iff_eq]
    omega
end Go.Proofs.YthfnedbpmdkdjaaDoor.D
namespace Go.Proofs.YthfnedbpmdkdjaaDoor.D
open Go Go.ChangeShapes Go.WideShapes Go.RowKit Go.Proofs.YthfnedbpmdkdjaaDoor.Eng Go.Proofs.YthfnedbpmdkdjaaDoor.Cm
set_option linter.unusedVariables false
set_option linter.unusedSimpArgs false
set_option maxRecDepth 100000
namespace DeckNever
theorem door_met_deckNever (os : Os) (args : Array Value) : laidMetH Tryd.prog Rows.deckNeverRow.laid ((World.doorLaid Tryd.prog 30 os).forCall (fun _ _ => 0) ⟨#[], args, []⟩).memory :=
  laidMetH_of_parts3 (fuel := 8) (laidMet_of_run' 8 (by kernel_rfl) (by kernel_rfl)) (by kernel_rfl) (by kernel_rfl)
theorem contract (H : Type) (enc : TypeId × Value → H) (W : World) (base : Nat) (args : Array Value) (ds gs : List (DataW H)) (before : List MemPlace)
    (hval : ∀ (j : Nat) t v, Tryd.f12.params[j]? = some t → args[j]? = some v → Value.okWide Tryd.prog W .any base t v)
    (hW : DataW.Whole enc Tryd.prog Tryd.f12.params.toList Rows.deckNeverSpec.vars false W args.toList ds gs before)
    (hsz0 : (DataW.weightsEach Tryd.prog (Tryd.f12.params.toList ++ []) (ds ++ gs)).all (fun x => decide (x ≤ reachBytes)) = true) (hL : laidMetH Tryd.prog Rows.deckNeverRow.laid W) (hS : W.ShapedOpen Tryd.prog) :
    Calls Tryd.prog 12 args W fun e W' => ∃ v, e = .returned v ∧ Rows.deckNeverSpec.post enc Tryd.prog Tryd.f12 false true false false W args v W' := by
  have hW' := hW
  obtain ⟨p, q, hA0, hV, rfl, hfz, hnd⟩ := hW
  have hA : DataW.TrodAll enc Tryd.prog W 0 (fun _ => true) true Tryd.f12.params.toList args.toList ds p := hA0
  rw [Tryd.params12] at hA hval hsz0
  clear hA0
  obtain ⟨v0, vs0, d0, ds0, p0, q0, hargs, rfl, rfl, h0, r0⟩ := trodAll_cons hA
  obtain ⟨v1, vs1, d1, ds1, p1, q1, rfl, rfl, rfl, h1, r1⟩ := trodAll_cons r0
  obtain ⟨rfl, rfl, rfl⟩ := trodAll_nil r1
  obtain rfl : args = #[v0, v1] := by apply Array.ext'; rw [hargs]
  obtain ⟨rfl, rfl⟩ := trodVars_none hV
  have hsz : (DataW.weightsEach Tryd.prog [24, 3] [d0, d1]).all (fun x => decide (x ≤ reachBytes)) = true := by simpa using hsz0
  have hb0 : Wb Tryd.prog 24 d0 := Bd_each hsz (j := 0) rfl rfl
  obtain ⟨c0, rfl, ⟨g0_0, x0, y0, q0_0, q0_1, q0_2, _⟩⟩ := arg_agg Tryd.underlying24 (hval 0 24 v0 rfl rfl) h0 hb0 opn24
  rw [agg_of y0] at *
  obtain ⟨x1, rfl, q1_0⟩ := arg_int Tryd.underlying3 (hval 1 3 v1 rfl rfl) h1
  have ha := deck_of hS hL
  have hc := DeckNeverL_calls g0_0 x0 x1 W q0_0.1 ha.1 ha.2
  refine hc.mono fun e W' ⟨he, hb⟩ => ?_
  refine ⟨.bool true, he.trans (by rw [DeckNever_true x0 x1]), law_post laidOut (fun u hu => ?_) hW' rfl (by kernel_rfl) Tryd.underlying4 rfl rfl rfl hb⟩
  have hall : ([24, 3] : List TypeId).all (fun u => Tryd.prog.readableRec u && decide (u < Tryd.prog.types.size)) = true := by kernel_rfl
  have hu' : u ∈ ([24, 3] : List TypeId) := hu
  have := List.all_eq_true.1 hall u hu'
  simp only [Bool.and_eq_true, decide_eq_true_eq] at this
  exact this
theorem reads (os : Os) {H : Type} (enc : TypeId × Value → H) : ∃ places, DataW.whole enc Tryd.prog ((World.doorLaid Tryd.prog 30 os).forCall (fun _ _ => 0) ⟨#[], #[.agg #[.slice none 0 0, .int .i64 0, .int .i64 0], .int .i64 0], []⟩).memory Tryd.f12.params.toList Rows.deckNeverSpec.vars false (#[.agg #[.slice none 0 0, .int .i64 0, .int .i64 0], .int .i64 0] : Array Value).toList 8 = some ([.agg [.nil, .lit (.int .i64 0), .lit (.int .i64 0)], .lit (.int .i64 0)], [], places) :=
  ⟨[], by kernel_rfl⟩
set_option maxRecDepth 100000 in
theorem lifted (os : Os) (started : os.Started) (H : Type) (enc : TypeId × Value → H) (F : Stop.Interp) :
    ReturnsInHanded {} Tryd.checked os 12 .any ((OpenSpec.ofChange Rows.deckNeverSpec).preRow enc Tryd.prog Tryd.f12 Rows.deckNeverRow.domain false Rows.deckNeverRow.laid) (((OpenSpec.ofChange Rows.deckNeverSpec).at F).post enc Tryd.prog Tryd.f12 false true false false) := by
  obtain ⟨places, hx⟩ := reads os enc
  refine returnsInHanded_of_row (C := Tryd.checked) (s := OpenSpec.ofChange Rows.deckNeverSpec) own started (by kernel_rfl) Tryd.func12
    (witness_row_atRef (enc := enc) (C := Tryd.checked) false (World.doorLaid Tryd.prog 30 os) #[.agg #[.slice none 0 0, .int .i64 0, .int .i64 0], .int .i64 0] rfl (by kernel_rfl) (by kernel_rfl) (by kernel_rfl)
      (OpenSpec.preRow_of_cond 8 hx (by kernel_rfl) (fun k hk => by cases hk) (by kernel_rfl) (door_met_deckNever os _))) ?_
  intro W base args ds gs before hval hW _ hcond hsz hL hS _
  exact contract H enc W base args ds gs before hval hW hsz hL hS
theorem said : Rows.DeckNeverSaid :=
  OpenClaim.holds_of_cond 12 Tryd.f12 rfl rfl rfl rfl rfl rfl rfl ⟨rfl, rfl, rfl, rfl, rfl⟩ rfl rfl rfl rfl rfl (by kernel_rfl) Tryd.func12 (by kernel_rfl)
    (of_decide_eq_true (by kernel_rfl)) (by unfold Func.isWrapper; first | (rw [if_pos (by decide +kernel)]; kernel_rfl) | (rw [if_neg (by decide +kernel)]; exact ⟨rfl, rfl⟩))
    (fun os started H enc _ F => by rw [OpenClaim.pre_eq_preRow]; exact lifted os started H enc F)
theorem plain (f : FuncId) (fn : Func) (hf : Tryd.pinned.checked.prog.funcNamed "prow/prowlaw03.DeckNever" = some f) (hfn : Tryd.pinned.checked.prog.funcs[f]? = some fn) :
    false = Tryd.pinned.checked.prog.looks [] ∧ ∀ (j : Nat) t, fn.params[j]? = some t → Tryd.pinned.checked.prog.wantsStandIn t = false := by
  obtain rfl : f = 12 := Option.some.inj ((show Tryd.prog.funcNamed "prow/prowlaw03.DeckNever" = some 12 by kernel_rfl).symm.trans hf) |>.symm
  obtain rfl : fn = Tryd.f12 := (Option.some.inj (Tryd.func12.symm.trans hfn)).symm
  refine ⟨by kernel_rfl, fun j t ht => ?_⟩
  rw [Tryd.params12] at ht
  have hm : t ∈ ([24, 3] : List TypeId) := by simpa using Array.mem_of_getElem? ht
  have hall : (([24, 3] : List TypeId).all fun u => !Tryd.prog.wantsStandIn u) = true := by kernel_rfl
  exact (show Tryd.prog.wantsStandIn t = false by simpa using List.all_eq_true.1 hall t hm)
theorem card : Rows.DeckNeverCardSaid :=
  Claim7.holds_tied_plain_at .later [] _ _ _ _ said (fun _ h => by cases h) (by kernel_rfl) (fun _ h => by cases h) deckNever_row_tie rfl ⟨rfl, rfl⟩ (by kernel_rfl) rfl plain (by kernel_rfl)
end DeckNever
end Go.Proofs.YthfnedbpmdkdjaaDoor.D
theorem Go.Proofs.YthfnedbpmdkdjaaDoor.deckNever_holds : Go.Proofs.YthfnedbpmdkdjaaDoor.Rows.DeckNeverCardSaid := Go.Proofs.YthfnedbpmdkdjaaDoor.D.DeckNever.card
