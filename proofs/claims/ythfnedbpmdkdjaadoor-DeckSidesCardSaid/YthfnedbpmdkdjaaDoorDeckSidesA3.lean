/- Parts of the proof of DeckSides: the engine, contracts of functions, plain lemmas. -/
import Derived.Test.YthfnedbpmdkdjaaDoorDeckSidesA2
import Derived.ArgAppend
import Derived.Below
import Derived.Carry
import Derived.ChangeKeysEq
import Derived.ControlIn
import Derived.Deep.DeepHandedRow
import Derived.Deep.DeepWitnessRowRef
import Derived.Deep.Draws
import Derived.Deep.Quiet
import Derived.Deep.Slices
import Derived.KernelRfl
import Derived.LaidMore
import Derived.Laws.AppendOwn
import Derived.Laws.Cells
import Derived.Laws.CopyRow
import Derived.Laws.IdiomRangeMap
import Derived.Laws.OwnMore
import Derived.Laws.Rows
import Derived.MapKept
import Derived.Maps.AppendAt
import Derived.OpenShut
import Derived.OrdersHeld
import Derived.OrdersIn
import Derived.ProofKit
import Derived.RangeFuncLeaves
import Derived.RangeFuncNested
import Derived.RangeFuncOwn
import Derived.SevenTiedAt
import Derived.SizedLaws
import Derived.Stop.Joined
import Derived.Test.YthfnedbpmdkdjaaDoorCards
import Derived.Test.YthfnedbpmdkdjaaDoorProg
import Derived.Test.YthfnedbpmdkdjaaDoorRows
import Derived.Test.YthfnedbpmdkdjaaDoorTie
import Derived.WalkKit
import Derived.WideKeyRuns
namespace Go.Proofs.YthfnedbpmdkdjaaDoor.D
open Go Go.RowKit Go.Proofs.YthfnedbpmdkdjaaDoor.Eng Go.Proofs.YthfnedbpmdkdjaaDoor.Cm
set_option linter.unusedVariables false
set_option linter.unusedSimpArgs false
set_option linter.unusedSectionVars false
def crossD (b : DBook) (S : List (Int × Bool)) : Nat → List Int → List Int → List Int × Bool
  | 0 => crossS b S fun _ _ => ([], false)
  | r + 1 => crossS b S (crossD b S r)
theorem cross_ok {b : DBook} (S : List (Int × Bool)) (hb5 : b.loads.length ≤ 5) (sv : Value) (gx gt gs gc : Nat) : ∀ r : Nat, CrossC b S sv gx gt gs gc (fun n m => n + r = b.loads.length ∧ m ≤ 5) (crossD b S r) := by
  intro r
  induction r with
  | zero =>
    intro tv uv so of w hR rb rs ro hx hs hc hms
    exact crossS_calls b S (fun _ _ => ([], false)) (fun _ _ => False) so of sv tv uv gx gt gs gc w rb rs ro hx hs hc hms hb5 (by omega) hR.2 (fun _ _ _ _ _ h => h.elim) (fun h => by omega)
  | succ r ih =>
    intro tv uv so of w hR rb rs ro hx hs hc hms
    exact crossS_calls b S (crossD b S r) (fun n m => n + r = b.loads.length ∧ m ≤ 5) so of sv tv uv gx gt gs gc w rb rs ro hx hs hc hms hb5 (by omega) hR.2 ih (fun h => ⟨by omega, hR.2⟩)
theorem cross_top {b : DBook} (S : List (Int × Bool)) (hb5 : b.loads.length ≤ 5) (a0 uv x t c cl : Value) (gx gt gs gc : Nat) (of : List Int) (w : World) (hof : of.length ≤ 5) (rb : Reads w a0 3 b.loads encLoad zLoad) (ro : Reads w uv 1 of encI 0) (hms : w.heap[gs]? = some (.map (ents S stKey stVal) S.length)) (hx : x = .pointer (some ⟨gx, 0, none⟩)) (ht : t = .pointer (some ⟨gt, 0, none⟩)) (hc : c = .pointer (some ⟨gc, 0, none⟩))
    (hxh : w.heap[gx]? = some (.cells #[a0, iv b.rule, iv b.most] 24 (0, 0))) (hth : w.heap[gt]? = some (.cells #[.map (some gs)] 109 (0, 0))) (hcl : cl = .func (.func 98) #[] #[ptrAt x 0, ptrAt t 0, ptrAt c 0]) (hch : w.heap[gc]? = some (.cells #[cl] 112 (0, 0))) :
    Calls Tryd.prog 98 #[.slice none 0 0, uv, ptrAt x 0, ptrAt t 0, ptrAt c 0] w fun e w' => ∃ v, e = .returned (.tuple #[v, .bool (crossD b S b.loads.length [] of).2]) ∧ Below w.heap.size w w' ∧ Reads w' v 1 (crossD b S b.loads.length [] of).1 encI 0 ∧ (∀ g, vblk v = some g → w.heap.size ≤ g ∧ g < w'.heap.size) := by
  subst hx ht hc
  simp only [ptrAt, Nat.add_zero] at *
  subst hcl
  have h5 := cross_ok S hb5 a0 gx gt gs gc b.loads.length (.slice none 0 0) uv [] of w ⟨by simp, hof⟩ rb reads_nil ro hxh hth hch hms
  exact h5.mono fun e w' ⟨v, h1, h2, h3, h4⟩ => ⟨v, h1, h2, h3, fun g hg => (h4 g hg).resolve_left (fun h => by cases h)⟩
def fewestA_c1 (b : DBook) (k1 : Nat) : (List (Int × Bool)) → Bool := fun v1_1 => decide ((k1 : Int) < (IntKind.i64.wrap ((allD b) + 1)))
def fewestA_b1 (b : DBook) (k1 : Nat) : (List (Int × Bool)) → Bd (List (Int × Bool)) ((List Int) × Int) := fun v1_1 => .go (v1_1 ++ [(((k1 : Int), (togetherD b (k1 : Int))) : Int × Bool)])
def fewestA_c2 (b : DBook) (u1_0 : List (Int × Bool)) (k2 : Nat) : Unit → Bool := fun _ => decide ((k2 : Int) < (b.loads.length : Int))
def fewestA_b2 (b : DBook) (u1_0 : List (Int × Bool)) (k2 : Nat) : Unit → Bd Unit ((List Int) × Int) := fun _ => (bif (crossD b u1_0 b.loads.length [] (List.replicate (IntKind.i64.wrap ((k2 : Int) + 1)).toNat 0)).2 then .ret ((crossD b u1_0 b.loads.length [] (List.replicate (IntKind.i64.wrap ((k2 : Int) + 1)).toNat 0)).1, 0) else .go ())
def fewestA (b : DBook) : (List Int) × Int :=
  (bif (checkD b) != 0 then ([], (checkD b)) else (match loopR (fewestA_c1 b) (fewestA_b1 b) (2 ^ b.loads.length) 0 ([] : List (Int × Bool)) with | .brk u1_0 => (match loopR (fewestA_c2 b u1_0) (fewestA_b2 b u1_0) b.loads.length 0 () with | .brk () => ([], 4) | .ret r => r) | .ret r => r))
theorem fewestA_calls (g0 : Value) (b : DBook) (w : World) (r0 : Reads w g0 3 b.loads encLoad zLoad) (hnb : NobodyAt w) (hla : LanesAt w) : Calls Tryd.prog 46 #[.agg #[g0, iv b.rule, iv b.most]] w fun e w' => ∃ v0, e = .returned (.tuple #[v0, iv (fewestA b).2]) ∧ Below w.heap.size w w' ∧ Reads w' v0 1 (fewestA b).1 encI 0 ∧ (∀ g, vblk v0 = some g → w.heap.size ≤ g ∧ g < w'.heap.size) := by
  refine calls_of_WP (cx := cx0 w (vn [g0]) 1) (n := vn [g0]) (vs := [.g [.ref 0, .int .i64 b.rule, .int .i64 b.most]]) (hp := [(0, .sl .ro 61 3 b.loads encLoad zLoad), (1, .pf NobodyAt (· = 1)), (2, .pf LanesAt (· = 0))]) (nx := 3) tt_ok Tryd.func46 rfl rfl rfl (by kernel_rfl) (HSat_args (vn_one (by simp [r0.one])) (by decide) ⟨⟨⟨fun _ => rfl, by decide, r0⟩, (Nat.le_of_ble_eq_true rfl)⟩, ⟨⟨hnb, fun w1 w2 h1 hw => (hw 1 rfl).trans h1, fun g hg => by cases hg; exact (Array.getElem?_eq_some_iff.1 hnb).1⟩, (Nat.le_of_ble_eq_true rfl)⟩, ⟨⟨hla, fun w1 w2 h1 hw => (hw 0 rfl).trans h1, fun g hg => by cases hg; exact (Array.getElem?_eq_some_iff.1 hla).1⟩, (Nat.le_of_ble_eq_true rfl)⟩, trivial⟩) (vsOk (by kernel_rfl)) ?_
  have hl0 := Reads.len r0
  refine WP_seq (WP_region (WPO_all tt_ok (by kernel_rfl) ?_))
  refine WP_seq (WP_seq (WP_region (WPO_run tt_ok 1 (by kernel_rfl) ?_)))
  refine CALL 66 [.g [.ref 0, .int .i64 b.rule, .int .i64 b.most]] (.s (.int .i64 (checkD b))) [] (by kernel_rfl) (goes_of (by kernel_rfl)) (by kernel_rfl) (by kernel_rfl) (fun _ nV w h => checkD_calls (nV 0) b w (h.reads (id := 0) (kd := .ro) (e := 61) (by kernel_rfl)) ) ?_
  refine WPO_all tt_ok (by kernel_rfl) ?_
  refine WP_seq (WP_region (WPO_all tt_ok (by kernel_rfl) ?_))
  refine WP_cond ((checkD b) != 0) (by kernel_rfl) (fun hc2 => ?_) (fun hc2 => ?_)
  · have hc2' := hc2; try simp only [Bool.and_eq_true, Bool.or_eq_true, Bool.and_eq_false_iff, Bool.or_eq_false_iff, Bool.not_eq_true', Bool.not_eq_false', decide_eq_true_eq, decide_eq_false_iff_not, beq_iff_eq, beq_eq_false_iff_ne, bne_iff_ne, bne_eq_false_iff_eq, ne_eq] at hc2'
    refine WP_seq (WP_region (WPO_all tt_ok (by kernel_rfl) ?_))
    refine WP_ret ?_
    exact ⟨.t [(false, [.v (.slice none 0 0)]), (false, [.int .i64 (checkD b)])], by kernel_rfl, fun nV w' h => ⟨.slice none 0 0, by rw [show fewestA b = ([], (checkD b)) from by unfold fewestA; simp only [hc2, cond_true, cond_false]]; rfl, h.bel, by rw [show fewestA b = ([], (checkD b)) from by unfold fewestA; simp only [hc2, cond_true, cond_false]]; exact reads_nil, fun g hg => by cases hg⟩⟩
  have hc2' := hc2; try simp only [Bool.and_eq_true, Bool.or_eq_true, Bool.and_eq_false_iff, Bool.or_eq_false_iff, Bool.not_eq_true', Bool.not_eq_false', decide_eq_true_eq, decide_eq_false_iff_not, beq_iff_eq, beq_eq_false_iff_ne, bne_iff_ne, bne_eq_false_iff_eq, ne_eq] at hc2'
  refine WP_skip ?_
  have hv : ValidD b := checkD_valid.1 (bne_eq_false_iff_eq.1 (by assumption))
  have hb5 := hv.n.2
  have hpw := all_wrap hb5
  have hpl := pow_le5 hb5
  refine WP_seq (WP_region (WPO_run tt_ok 1 (by kernel_rfl) ?_))
  refine CALLMAP 90 [.g [.ref 0, .int .i64 b.rule, .int .i64 b.most]] (plL b) plKey plVal (fun gM1 => .g [.ref 0, .int .i64 b.rule, .int .i64 b.most, .v (.map (some gM1))]) (by kernel_rfl) (goes_of (by kernel_rfl)) (fun _ => (by kernel_rfl)) (fun _ => (by kernel_rfl)) (fun _ n n' h => by simp only [AV.c, cellsV, part1, AC.c, List.map_cons, List.map_nil, h 0 (by show 0 < 4; decide)]) (fun nV w h => opened_plL (nV 0) b w (h.reads (id := 0) (kd := .ro) (e := 61) (by kernel_rfl)) (h.ents (1, .pf NobodyAt (· = 1)) (fnd_mem (by kernel_rfl))).1 (by first | assumption | omega)) (fun gM1 => ?_)
  refine WPO_all tt_ok (by kernel_rfl) ?_
  refine WP_seq (WP_region (MKMg (κ := (Int × Bool)) stKey stVal (some 19) (by kernel_rfl) (fun _ => (by kernel_rfl)) (fun gM2 => ?_)))
  refine WPO_all tt_ok (by kernel_rfl) ?_
  refine WP_seq (WP_seq (WP_region (WPO_run tt_ok 1 (by kernel_rfl) ?_)))
  refine CALL 96 [.g [.ref 0, .int .i64 b.rule, .int .i64 b.most, .v (.map (some gM1))]] (.s (.int .i64 (allD b))) [] (by kernel_rfl) (goes_of (by kernel_rfl)) (by kernel_rfl) (by kernel_rfl) (fun _ nV w h => allD_calls (nV 0) gM1 b w (h.reads (id := 0) (kd := .ro) (e := 61) (by kernel_rfl)) (h.ents (4, mapE gM1 (plL b) plKey plVal) (fnd_mem (by kernel_rfl))).1 (by first | assumption | omega)) ?_
  refine WPO_all tt_ok (by kernel_rfl) ?_
  refine WP_loopA (ρ := (List Int) × Int) (fewestA_c1 b) (fewestA_b1 b) (2 ^ b.loads.length) ([] : List (Int × Bool)) (fun k : Nat => (k : Int)) (fun (ci : Int) (zz : (List (Int × Bool))) => ⟨55, [(23, [], .s (.int .i64 ci)), (22, [], .s (.int .i64 (IntKind.i64.wrap ((allD b) + 1)))), (6, [], .s (.p 7 0)), (5, [], .s (.p 5 0)), (1, [], .s (.p 3 0))], [(7, .box 109 [.v (.map (some gM2))]), (6, mapE gM2 zz stKey stVal), (5, .box 94 [.ref 0, .int .i64 b.rule, .int .i64 b.most, .v (.map (some gM1))]), (4, mapE gM1 (plL b) plKey plVal), (3, .box 24 [.ref 0, .int .i64 b.rule, .int .i64 b.most]), (0, .sl .ro 61 3 b.loads encLoad zLoad), (1, .pf NobodyAt (· = 1)), (2, .pf LanesAt (· = 0))], 8, []⟩) (fun zz : (List (Int × Bool)) => ⟨55, [(6, [], .s (.p 7 0)), (1, [], .s (.p 3 0))], [(7, .box 109 [.v (.map (some gM2))]), (6, mapE gM2 zz stKey stVal), (5, .box 94 [.ref 0, .int .i64 b.rule, .int .i64 b.most, .v (.map (some gM1))]), (4, mapE gM1 (plL b) plKey plVal), (3, .box 24 [.ref 0, .int .i64 b.rule, .int .i64 b.most]), (0, .sl .ro 61 3 b.loads encLoad zLoad), (1, .pf NobodyAt (· = 1)), (2, .pf LanesAt (· = 0))], 8, []⟩) (fun (k1 : Nat) (zz : (List (Int × Bool))) => ∀ x ∈ zz, x.1 < (k1 : Int)) (fun x hx => by cases hx) ⟨0, rfl, Le_sel (ts := [23, 22, 6, 5, 1]) (ids := [7, 6, 5, 4, 3, 0, 1, 2]) (nx := 8) (by kernel_rfl)⟩ ?_ ?_
  · intro k1 v1_1 hn1 hp1 hi1 Q1 hq1 ho1
    replace hp1 : ∀ x ∈ v1_1, x.1 < (k1 : Int) := hp1
    refine WP_seq (WP_region (WPO_all tt_ok (by kernel_rfl) ?_))
    refine WP_seq (WP_cond (decide ((k1 : Int) < (IntKind.i64.wrap ((allD b) + 1)))) (by kernel_rfl) (fun hc3 => ?_) (fun hc3 => ?_))
    rotate_left
    · refine WP_exit ?_
      show Q1 (.exit 0) _
      exact LA_exit hq1 v1_1 (loopR_end hi1 hc3) ⟨k1, hn1, hp1⟩ (Le_sel (ts := [6, 1]) (ids := [7, 6, 5, 4, 3, 0, 1, 2]) (nx := 8) (by kernel_rfl))
    have hc3' := of_decide_eq_true hc3
    have hk1 : k1 < 2 ^ b.loads.length := by rw [hpw] at hc3'; omega
    refine WP_skip ?_
    refine WP_seq (WP_block ?_)
    refine WP_seq (WP_region (WPO_all tt_ok (by kernel_rfl) ?_))
    refine WP_drawH [6] (by kernel_rfl) (by kernel_rfl) ?_
    refine H_run tt_ok [0, 1, 2, 3] (f' := 2) (by kernel_rfl) (by kernel_rfl) (by kernel_rfl) ?_
    refine H_step 4 (by kernel_rfl) (by kernel_rfl) (fun hfz cx' hx1 hx2 => ?_)
    refine CALL 97 [.g [.ref 0, .int .i64 b.rule, .int .i64 b.most, .v (.map (some gM1))], .s (.int .i64 (k1 : Int))] (.s (.bool (togetherD b (k1 : Int)))) [] (by kernel_rfl) (goes_of (by kernel_rfl)) (by kernel_rfl) (by kernel_rfl) (fun _ nV w h => togetherD_calls (nV 0) gM1 b (k1 : Int) w (h.reads (id := 0) (kd := .ro) (e := 61) (by kernel_rfl)) (h.ents (4, mapE gM1 (plL b) plKey plVal) (fnd_mem (by kernel_rfl))).1 (h.ents (2, .pf LanesAt (· = 0)) (fnd_mem (by kernel_rfl))).1 (by first | assumption | omega) (by first | assumption | omega)) ?_
    refine WPO_end (by kernel_rfl) ⟨rfl, (hfz.fnds [7, 5, 4, 3, 0, 1, 2] (by kernel_rfl) ⟨by kernel_rfl, by kernel_rfl, by kernel_rfl, by kernel_rfl, by kernel_rfl, by kernel_rfl, by kernel_rfl, trivial⟩ (by kernel_rfl)), ?_⟩
    refine H_step 5 (by kernel_rfl) (by kernel_rfl) (fun hfz cx' hx1 hx2 => ?_)
    refine MUPg tt_ok v1_1 stKey stVal (((k1 : Int), (togetherD b (k1 : Int))) : Int × Bool) 6 gM2 3 (.s (.int .i64 (k1 : Int))) (.s (.bool (togetherD b (k1 : Int)))) (by kernel_rfl) (by kernel_rfl) (fun _ => ⟨rfl, rfl⟩) (fun w => check_int (by kernel_rfl) _ w false) (fun w => find_int_none (by kernel_rfl) _ stK stKey stVal (fun _ => rfl) w _ (fun x hx h => by have h0 := hp1 x hx; simp only [stK] at h; omega)) ?_
    refine WPO_end (by kernel_rfl) ⟨rfl, (hfz.fnds [7, 5, 4, 3, 0, 1, 2] (by kernel_rfl) ⟨by kernel_rfl, by kernel_rfl, by kernel_rfl, by kernel_rfl, by kernel_rfl, by kernel_rfl, by kernel_rfl, trivial⟩ (by kernel_rfl)), ?_⟩
    refine H_done (by kernel_rfl) ?_
    refine WP_region (WPO_all tt_ok (by kernel_rfl) ?_)
    show Q1 .normal _
    exact LA_go hq1 (ci := IntKind.i64.wrap ((k1 : Int) + 1)) (v1_1 ++ [(((k1 : Int), (togetherD b (k1 : Int))) : Int × Bool)]) hk1 (by show _ = ((k1 + 1 : Nat) : Int); rw [wrapI (by omega) (by omega)]; omega) (loopR_go hi1 hk1 hc3 (rfl)) (fun x hx => (List.mem_append.1 hx).elim (fun h => by have := hp1 x h; omega) (fun h => by rw [List.mem_singleton.1 h]; show (k1 : Int) < ((k1 + 1 : Nat) : Int); omega)) (Le_sel (ts := [23, 22, 6, 5, 1]) (ids := [7, 6, 5, 4, 3, 0, 1, 2]) (nx := 8) (by kernel_rfl))
  intro u1_0 hR1 hP1 s' hl
  obtain ⟨kP1, hkP1, hpP1⟩ := hP1
  replace hpP1 : ∀ x ∈ u1_0, x.1 < (kP1 : Int) := hpP1
  refine WP_le hl ?_
  clear hl s'
  refine WP_seq (WP_region (WPO_all tt_ok (by kernel_rfl) ?_))
  refine WP_seq (WP_region (WPO_all tt_ok (by kernel_rfl) ?_))
  refine WP_seq (WP_seq (WP_region (WPO_all tt_ok (by kernel_rfl) ?_)))
  refine WP_loopA (ρ := (List Int) × Int) (fewestA_c2 b u1_0) (fewestA_b2 b u1_0) b.loads.length () (fun k : Nat => (k : Int)) (fun (ci : Int) (zz : Unit) => ⟨55, [(36, [], .s (.int .i64 ci)), (35, [], .s (.int .i64 (b.loads.length : Int))), (8, [], .s (.p 8 0))], [(9, .clo 98 [] [.s (.p 3 0), .s (.p 7 0), .s (.p 8 0)]), (8, .box 112 [.ref 9]), (7, .box 109 [.v (.map (some gM2))]), (6, mapE gM2 u1_0 stKey stVal), (5, .box 94 [.ref 0, .int .i64 b.rule, .int .i64 b.most, .v (.map (some gM1))]), (4, mapE gM1 (plL b) plKey plVal), (3, .box 24 [.ref 0, .int .i64 b.rule, .int .i64 b.most]), (0, .sl .ro 61 3 b.loads encLoad zLoad), (1, .pf NobodyAt (· = 1)), (2, .pf LanesAt (· = 0))], 10, []⟩) (fun zz : Unit => ⟨55, [], [(9, .clo 98 [] [.s (.p 3 0), .s (.p 7 0), .s (.p 8 0)]), (8, .box 112 [.ref 9]), (7, .box 109 [.v (.map (some gM2))]), (6, mapE gM2 u1_0 stKey stVal), (5, .box 94 [.ref 0, .int .i64 b.rule, .int .i64 b.most, .v (.map (some gM1))]), (4, mapE gM1 (plL b) plKey plVal), (3, .box 24 [.ref 0, .int .i64 b.rule, .int .i64 b.most]), (0, .sl .ro 61 3 b.loads encLoad zLoad), (1, .pf NobodyAt (· = 1)), (2, .pf LanesAt (· = 0))], 10, []⟩) (fun k zz => True) trivial ⟨0, rfl, Le_sel (ts := [36, 35, 8]) (ids := [9, 8, 7, 6, 5, 4, 3, 0, 1, 2]) (nx := 10) (by kernel_rfl)⟩ ?_ ?_
  · intro k2 zz hn2 hp2 hi2 Q2 hq2 ho2
    refine WP_seq (WP_region (WPO_all tt_ok (by kernel_rfl) ?_))
    refine WP_seq (WP_cond (decide ((k2 : Int) < (b.loads.length : Int))) (by kernel_rfl) (fun hc4 => ?_) (fun hc4 => ?_))
    rotate_left
    · refine WP_exit ?_
      show Q2 (.exit 2) _
      exact LA_exit hq2 () (loopR_end hi2 hc4) ⟨k2, hn2, hp2⟩ (Le_sel (ts := []) (ids := [9, 8, 7, 6, 5, 4, 3, 0, 1, 2]) (nx := 10) (by kernel_rfl))
    have hc4' := of_decide_eq_true hc4
    have hk2 : k2 < b.loads.length := by omega
    refine WP_skip ?_
    refine WP_seq (WP_block ?_)
    refine WP_seq (WP_region (WPO_all tt_ok (by kernel_rfl) ?_))
    refine WP_seq (WP_drawH [] (by kernel_rfl) (by kernel_rfl) ?_)
    refine H_run tt_ok [0, 1, 2] (f' := 7) (by kernel_rfl) (by kernel_rfl) (by kernel_rfl) ?_
    refine H_step 3 (by kernel_rfl) (by kernel_rfl) (fun hfz cx' hx1 hx2 => ?_)
    refine MKS tt_ok 33 3 (IntKind.i64.wrap ((k2 : Int) + 1)) (some 43) encI 0 (.int .i64 0) (by kernel_rfl) (by kernel_rfl) rfl (fun _ => rfl) (by kernel_rfl) (by rw [wrapI (by omega) (by omega)]; omega) (by kernel_rfl) ?_
    refine WPO_end (by kernel_rfl) ⟨rfl, (hfz.fnds [9, 8, 7, 6, 5, 4, 3, 0, 1, 2] (by kernel_rfl) ⟨by kernel_rfl, by kernel_rfl, by kernel_rfl, by kernel_rfl, by kernel_rfl, by kernel_rfl, by kernel_rfl, by kernel_rfl, by kernel_rfl, by kernel_rfl, trivial⟩ (by kernel_rfl)), ?_⟩
    refine H_step 4 (by kernel_rfl) (by kernel_rfl) (fun hfz cx' hx1 hx2 => ?_)
    refine CALLSL 98 [.s (.v (.slice none 0 0)), .s (.ref 10), .s (.p 3 0), .s (.p 7 0), .s (.p 8 0)] (fun sv5 => .t [(false, [.v sv5]), (false, [.bool (crossD b u1_0 b.loads.length [] (List.replicate (IntKind.i64.wrap ((k2 : Int) + 1)).toNat 0)).2])]) 1 (crossD b u1_0 b.loads.length [] (List.replicate (IntKind.i64.wrap ((k2 : Int) + 1)).toNat 0)).1 encI 0 (by decide) (by kernel_rfl) (goes_of (by kernel_rfl)) (fun _ => (by kernel_rfl)) (fun _ => (by kernel_rfl)) (fun _ _ _ => rfl) (fun nV w h => by
      obtain ⟨gx, hx1, _, hx2⟩ := h.ents (3, .box 24 [.ref 0, .int .i64 b.rule, .int .i64 b.most]) (fnd_mem (by kernel_rfl))
      obtain ⟨gt, ht1, _, ht2⟩ := h.ents (7, .box 109 [.v (.map (some gM2))]) (fnd_mem (by kernel_rfl))
      obtain ⟨gc, hc1, _, hc2⟩ := h.ents (8, .box 112 [.ref 9]) (fnd_mem (by kernel_rfl))
      exact cross_top u1_0 hb5 (nV 0) (nV 10) (nV 3) (nV 7) (nV 8) (nV 9) gx gt gM2 gc (List.replicate (IntKind.i64.wrap ((k2 : Int) + 1)).toNat 0) w (by rw [List.length_replicate, wrapI (by omega) (by omega)]; omega) (h.reads (id := 0) (kd := .ro) (e := 61) (by kernel_rfl)) (h.reads (id := 10) (kd := .own) (e := 3) (by kernel_rfl)) (h.ents (6, mapE gM2 u1_0 stKey stVal) (fnd_mem (by kernel_rfl))).1 hx1 ht1 hc1 hx2 ht2 (h.ents (9, .clo 98 [] [.s (.p 3 0), .s (.p 7 0), .s (.p 8 0)]) (fnd_mem (by kernel_rfl))) hc2) (fun sv5 => ?_)
    refine WPO_end (by kernel_rfl) ⟨rfl, (hfz.fnds [9, 8, 7, 6, 5, 4, 3, 0, 1, 2] (by kernel_rfl) ⟨by kernel_rfl, by kernel_rfl, by kernel_rfl, by kernel_rfl, by kernel_rfl, by kernel_rfl, by kernel_rfl, by kernel_rfl, by kernel_rfl, by kernel_rfl, trivial⟩ (by kernel_rfl)), ?_⟩
    refine H_run tt_ok [5, 6, 7, 8, 9] (f' := 0) (by kernel_rfl) (by kernel_rfl) (by kernel_rfl) ?_
    refine H_done (by kernel_rfl) ?_
    refine WP_seq (WP_region (WPO_all tt_ok (by kernel_rfl) ?_))
    refine WP_cond ((crossD b u1_0 b.loads.length [] (List.replicate (IntKind.i64.wrap ((k2 : Int) + 1)).toNat 0)).2) (by kernel_rfl) (fun hc6 => ?_) (fun hc6 => ?_)
    · refine WP_seq (WP_region (WPO_run tt_ok 2 (by kernel_rfl) ?_))
      refine SLEN tt_ok (.s (.v sv5)) [] (crossD b u1_0 b.loads.length [] (List.replicate (IntKind.i64.wrap ((k2 : Int) + 1)).toNat 0)).1.length (by kernel_rfl) (fun _ n w h => by obtain ⟨A, c, hv, _⟩ := (h.ents (11, slE sv5 1 (crossD b u1_0 b.loads.length [] (List.replicate (IntKind.i64.wrap ((k2 : Int) + 1)).toNat 0)).1 encI 0) (fnd_mem (by kernel_rfl))).1; exact ⟨A, c, hv⟩) (by kernel_rfl) ?_
      refine WPO_run tt_ok 1 (by kernel_rfl) ?_
      refine SLEN tt_ok (.s (.v sv5)) [] (crossD b u1_0 b.loads.length [] (List.replicate (IntKind.i64.wrap ((k2 : Int) + 1)).toNat 0)).1.length (by kernel_rfl) (fun _ n w h => by obtain ⟨A, c, hv, _⟩ := (h.ents (11, slE sv5 1 (crossD b u1_0 b.loads.length [] (List.replicate (IntKind.i64.wrap ((k2 : Int) + 1)).toNat 0)).1 encI 0) (fnd_mem (by kernel_rfl))).1; exact ⟨A, c, hv⟩) (by kernel_rfl) ?_
      refine SLVF tt_ok 11 sv5 3 1 (crossD b u1_0 b.loads.length [] (List.replicate (IntKind.i64.wrap ((k2 : Int) + 1)).toNat 0)).1 encI 0 (some 53) (by kernel_rfl) (by kernel_rfl) (fun _ => (by kernel_rfl)) (fun sv6 => ?_)
      refine WPO_all tt_ok (by kernel_rfl) ?_
      refine WP_ret ?_
      show Q2 .ret _
      refine LA_ret hq2 ?_
      have he7 := loopR_ret (r := ((crossD b u1_0 b.loads.length [] (List.replicate (IntKind.i64.wrap ((k2 : Int) + 1)).toNat 0)).1, 0)) hi2 hk2 hc4 (by unfold fewestA_b2; simp only [hc6, cond_true, cond_false])
      exact ⟨.t [(false, [.v sv6]), (false, [.int .i64 0])], by kernel_rfl, fun nV w' h => ⟨sv6, by rw [show fewestA b = ((crossD b u1_0 b.loads.length [] (List.replicate (IntKind.i64.wrap ((k2 : Int) + 1)).toNat 0)).1, 0) from by unfold fewestA; simp only [hc2, hR1, he7, cond_true, cond_false]]; rfl, h.bel, by rw [show fewestA b = ((crossD b u1_0 b.loads.length [] (List.replicate (IntKind.i64.wrap ((k2 : Int) + 1)).toNat 0)).1, 0) from by unfold fewestA; simp only [hc2, hR1, he7, cond_true, cond_false]]; exact (slE_lt (id := 12) (v := sv6) (sz := 1) (li := (crossD b u1_0 b.loads.length [] (List.replicate (IntKind.i64.wrap ((k2 : Int) + 1)).toNat 0)).1) (enc := encI) (z := 0) h (by kernel_rfl)).1, (slE_lt (id := 12) (v := sv6) (sz := 1) (li := (crossD b u1_0 b.loads.length [] (List.replicate (IntKind.i64.wrap ((k2 : Int) + 1)).toNat 0)).1) (enc := encI) (z := 0) h (by kernel_rfl)).2⟩⟩
    refine WP_skip ?_
    refine WP_region (WPO_all tt_ok (by kernel_rfl) ?_)
    show Q2 .normal _
    exact LA_go hq2 (ci := IntKind.i64.wrap ((k2 : Int) + 1)) () hk2 (by show _ = ((k2 + 1 : Nat) : Int); rw [wrapI (by omega) (by omega)]; omega) (loopR_go hi2 hk2 hc4 (by unfold fewestA_b2; simp only [hc6, cond_true, cond_false])) trivial (Le_sel (ts := [36, 35, 8]) (ids := [9, 8, 7, 6, 5, 4, 3, 0, 1, 2]) (nx := 10) (by kernel_rfl))
  intro zz hR2 hP2 s' hl
  refine WP_le hl ?_
  clear hl s'
  refine WP_seq (WP_region (WPO_all tt_ok (by kernel_rfl) ?_))
  refine WP_ret ?_
  exact ⟨.t [(false, [.v (.slice none 0 0)]), (false, [.int .i64 4])], by kernel_rfl, fun nV w' h => ⟨.slice none 0 0, by rw [show fewestA b = ([], 4) from by unfold fewestA; simp only [hc2, hR1, hR2, cond_true, cond_false]]; rfl, h.bel, by rw [show fewestA b = ([], 4) from by unfold fewestA; simp only [hc2, hR1, hR2, cond_true, cond_false]]; exact reads_nil, fun g hg => by cases hg⟩⟩
end Go.Proofs.YthfnedbpmdkdjaaDoor.D
namespace Go.Proofs.YthfnedbpmdkdjaaDoor.D
open Go Go.RowKit Go.Proofs.YthfnedbpmdkdjaaDoor.Eng Go.Proofs.YthfnedbpmdkdjaaDoor.Cm
set_option linter.unusedVariables false
set_option linter.unusedSimpArgs false
set_option linter.unusedSectionVars false
def weighA_c2 (b : DBook) (k1 : Nat) (v1_1 : Int) (v1_2 : Int) (k2 : Nat) : Int → Bool := fun v2_1 => decide ((k2 : Int) < (IntKind.i64.wrap ((IntKind.i64.wrap ((b.loads.getD k1 zLoad).w.hi - (b.loads.getD k1 zLoad).w.lo)) + 1)))
def weighA_b2 (b : DBook) (k1 : Nat) (v1_1 : Int) (v1_2 : Int) (k2 : Nat) : Int → Bd Int (Int × Int) := fun v2_1 => .go (mn v2_1 ((mostD (⟨(cloneL b.loads).set k1 (⟨(⟨IntKind.i64.wrap ((b.loads.getD k1 zLoad).w.lo + (k2 : Int)), IntKind.i64.wrap ((b.loads.getD k1 zLoad).w.lo + (k2 : Int))⟩ : Span), ((cloneL b.loads).getD k1 zLoad).lanes⟩ : Load), b.rule, b.most⟩ : DBook)).length : Int))
def weighA_c1 (b : DBook) (k1 : Nat) : (Int × Int) → Bool := fun (v1_1, v1_2) => decide ((k1 : Int) < (b.loads.length : Int))
def weighA_b1 (b : DBook) (k1 : Nat) : (Int × Int) → Bd (Int × Int) (Int × Int) := fun (v1_1, v1_2) => (bif (IntKind.i64.wrap ((b.loads.getD k1 zLoad).w.hi - (b.loads.getD k1 zLoad).w.lo)) == 0 then .go (v1_1, v1_2) else (match loopR (weighA_c2 b k1 v1_1 v1_2) (weighA_b2 b k1 v1_1 v1_2) ((IntKind.i64.wrap ((IntKind.i64.wrap ((b.loads.getD k1 zLoad).w.hi - (b.loads.getD k1 zLoad).w.lo)) + 1)) : Int).toNat 0 (b.loads.length : Int) with | .brk u2_0 => .go (bif (decide ((greatestD u2_0 ([v1_1])) > v1_1)) then u2_0 else v1_1, bif (decide ((greatestD u2_0 ([v1_1])) > v1_1)) then (k1 : Int) else v1_2) | .ret r => .ret r))
def weighA (b : DBook) : Int × Int :=
  (bif (checkD b) != 0 then (0, (checkD b)) else (match loopR (weighA_c1 b) (weighA_b1 b) b.loads.length 0 (-1, -1) with | .brk (u1_0, u1_1) => (bif decide (u1_1 < 0) then (0, 4) else (u1_1, 0)) | .ret r => r))
set_option maxHeartbeats 1000000 in
theorem weighA_calls (g0 : Value) (b : DBook) (w : World) (r0 : Reads w g0 3 b.loads encLoad zLoad) (hnb : NobodyAt w) (hla : LanesAt w) : Calls Tryd.prog 48 #[.agg #[g0, iv b.rule, iv b.most]] w fun e w' => e = .returned (.tuple #[iv (weighA b).1, iv (weighA b).2]) ∧ Below w.heap.size w w' := by
  refine calls_of_WP (cx := cx0 w (vn [g0]) 1) (n := vn [g0]) (vs := [.g [.ref 0, .int .i64 b.rule, .int .i64 b.most]]) (hp := [(0, .sl .ro 61 3 b.loads encLoad zLoad), (1, .pf NobodyAt (· = 1)), (2, .pf LanesAt (· = 0))]) (nx := 3) tt_ok Tryd.func48 rfl rfl rfl (by kernel_rfl) (HSat_args (vn_one (by simp [r0.one])) (by decide) ⟨⟨⟨fun _ => rfl, by decide, r0⟩, (Nat.le_of_ble_eq_true rfl)⟩, ⟨⟨hnb, fun w1 w2 h1 hw => (hw 1 rfl).trans h1, fun g hg => by cases hg; exact (Array.getElem?_eq_some_iff.1 hnb).1⟩, (Nat.le_of_ble_eq_true rfl)⟩, ⟨⟨hla, fun w1 w2 h1 hw => (hw 0 rfl).trans h1, fun g hg => by cases hg; exact (Array.getElem?_eq_some_iff.1 hla).1⟩, (Nat.le_of_ble_eq_true rfl)⟩, trivial⟩) (vsOk (by kernel_rfl)) ?_
  have hl0 := Reads.len r0
  refine WP_seq (WP_region (WPO_all tt_ok (by kernel_rfl) ?_))
  refine WP_seq (WP_seq (WP_region (WPO_run tt_ok 1 (by kernel_rfl) ?_)))
  refine CALL 66 [.g [.ref 0, .int .i64 b.rule, .int .i64 b.most]] (.s (.int .i64 (checkD b))) [] (by kernel_rfl) (goes_of (by kernel_rfl)) (by kernel_rfl) (by kernel_rfl) (fun _ nV w h => checkD_calls (nV 0) b w (h.reads (id := 0) (kd := .ro) (e := 61) (by kernel_rfl)) ) ?_
  refine WPO_all tt_ok (by kernel_rfl) ?_
  refine WP_seq (WP_region (WPO_all tt_ok (by kernel_rfl) ?_))
  refine WP_cond ((checkD b) != 0) (by kernel_rfl) (fun hc2 => ?_) (fun hc2 => ?_)
  · have hc2' := hc2; try simp only [Bool.and_eq_true, Bool.or_eq_true, Bool.and_eq_false_iff, Bool.or_eq_false_iff, Bool.not_eq_true', Bool.not_eq_false', decide_eq_true_eq, decide_eq_false_iff_not, beq_iff_eq, beq_eq_false_iff_ne, bne_iff_ne, bne_eq_false_iff_eq, ne_eq] at hc2'
    refine WP_seq (WP_region (WPO_all tt_ok (by kernel_rfl) ?_))
    refine WP_ret ?_
    exact ⟨.t [(false, [.int .i64 0]), (false, [.int .i64 (checkD b)])], by kernel_rfl, fun nV w' h => ⟨by rw [show weighA b = (0, (checkD b)) from by unfold weighA; simp only [hc2, cond_true, cond_false]]; rfl, h.bel⟩⟩
  have hc2' := hc2; try simp only [Bool.and_eq_true, Bool.or_eq_true, Bool.and_eq_false_iff, Bool.or_eq_false_iff, Bool.not_eq_true', Bool.not_eq_false', decide_eq_true_eq, decide_eq_false_iff_not, beq_iff_eq, beq_eq_false_iff_ne, bne_iff_ne, bne_eq_false_iff_eq, ne_eq] at hc2'
  refine WP_skip ?_
  have hv : ValidD b := checkD_valid.1 (bne_eq_false_iff_eq.1 (by assumption))
  have hb5 := hv.n.2
  have hcl : (cloneL b.loads).length = b.loads.length := rfl
  refine WP_seq (WP_region (WPO_all tt_ok (by kernel_rfl) ?_))
  refine WP_seq (WP_seq (WP_region (WPO_all tt_ok (by kernel_rfl) ?_)))
  refine WP_loopA (ρ := Int × Int) (weighA_c1 b) (weighA_b1 b) b.loads.length (-1, -1) (fun k : Nat => (k : Int)) (fun (ci : Int) (zz : Int × Int) => ⟨83, [(21, [], .s (.int .i64 ci)), (20, [], .s (.int .i64 (b.loads.length : Int))), (19, [], .s (.ref 0)), (6, [], .s (.int .i64 zz.1)), (5, [], .s (.int .i64 zz.2)), (1, [], .s (.p 3 0))], [(3, .box 24 [.ref 0, .int .i64 b.rule, .int .i64 b.most]), (0, .sl .ro 61 3 b.loads encLoad zLoad), (1, .pf NobodyAt (· = 1)), (2, .pf LanesAt (· = 0))], 4, []⟩) (fun zz : Int × Int => ⟨83, [(5, [], .s (.int .i64 zz.2))], [(3, .box 24 [.ref 0, .int .i64 b.rule, .int .i64 b.most]), (0, .sl .ro 61 3 b.loads encLoad zLoad), (1, .pf NobodyAt (· = 1)), (2, .pf LanesAt (· = 0))], 4, []⟩) (fun k zz => True) trivial ⟨0, rfl, Le_sel (ts := [21, 20, 19, 6, 5, 1]) (ids := [3, 0, 1, 2]) (nx := 4) (by kernel_rfl)⟩ ?_ ?_
  · intro k1 zz hn1 hp1 hi1 Q1 hq1 ho1
    obtain ⟨v1_1, v1_2⟩ := zz
    refine WP_seq (WP_region (WPO_all tt_ok (by kernel_rfl) ?_))
    refine WP_seq (WP_cond (decide ((k1 : Int) < (b.loads.length : Int))) (by kernel_rfl) (fun hc3 => ?_) (fun hc3 => ?_))
    rotate_left
    · refine WP_exit ?_
      show Q1 (.exit 0) _
      exact LA_exit hq1 (v1_1, v1_2) (loopR_end hi1 hc3) ⟨k1, hn1, hp1⟩ (Le_sel (ts := [5]) (ids := [3, 0, 1, 2]) (nx := 4) (by kernel_rfl))
    have hc3' := of_decide_eq_true hc3
    have hk1 : k1 < b.loads.length := by omega
    have hld := (hv.load hk1).1
    have hw1 : IntKind.i64.wrap ((b.loads.getD k1 zLoad).w.hi - (b.loads.getD k1 zLoad).w.lo) = (b.loads.getD k1 zLoad).w.hi - (b.loads.getD k1 zLoad).w.lo := wrapI (by omega) (by omega)
    have hw2 : IntKind.i64.wrap (IntKind.i64.wrap ((b.loads.getD k1 zLoad).w.hi - (b.loads.getD k1 zLoad).w.lo) + 1) = (b.loads.getD k1 zLoad).w.hi - (b.loads.getD k1 zLoad).w.lo + 1 := by rw [hw1, wrapI (by omega) (by omega)]
    refine WP_skip ?_
    refine WP_seq (WP_block ?_)
    refine WP_seq (WP_region (WPO_run tt_ok 1 (by kernel_rfl) ?_))
    refine IX tt_ok (k1 : Int) b.loads.length [] (by kernel_rfl) (fun hG => ⟨by omega, by omega⟩) ?_
    refine WPO_all tt_ok (by kernel_rfl) ?_
    refine WP_seq (WP_region (WPO_all tt_ok (by kernel_rfl) ?_))
    refine WP_seq (WP_seq (WP_region (WPO_all tt_ok (by kernel_rfl) ?_)))
    refine WP_cond ((IntKind.i64.wrap ((b.loads.getD k1 zLoad).w.hi - (b.loads.getD k1 zLoad).w.lo)) == 0) (by kernel_rfl) (fun hc5 => ?_) (fun hc5 => ?_)
    · have hc5' := hc5; try simp only [Bool.and_eq_true, Bool.or_eq_true, Bool.and_eq_false_iff, Bool.or_eq_false_iff, Bool.not_eq_true', Bool.not_eq_false', decide_eq_true_eq, decide_eq_false_iff_not, beq_iff_eq, beq_eq_false_iff_ne, bne_iff_ne, bne_eq_false_iff_eq, ne_eq] at hc5'
      refine WP_exit ?_
      refine WP_region (WPO_all tt_ok (by kernel_rfl) ?_)
      show Q1 .normal _
      exact LA_go hq1 (ci := IntKind.i64.wrap ((k1 : Int) + 1)) (v1_1, v1_2) hk1 (by show _ = ((k1 + 1 : Nat) : Int); rw [wrapI (by omega) (by omega)]; omega) (loopR_go hi1 hk1 hc3 (by unfold weighA_b1; simp only [hc5, cond_true, cond_false])) trivial (Le_sel (ts := [21, 20, 19, 6, 5, 1]) (ids := [3, 0, 1, 2]) (nx := 4) (by kernel_rfl))
    have hc5' := hc5; try simp only [Bool.and_eq_true, Bool.or_eq_true, Bool.and_eq_false_iff, Bool.or_eq_false_iff, Bool.not_eq_true', Bool.not_eq_false', decide_eq_true_eq, decide_eq_false_iff_not, beq_iff_eq, beq_eq_false_iff_ne, bne_iff_ne, bne_eq_false_iff_eq, ne_eq] at hc5'
    refine WP_skip ?_
    refine WP_seq (WP_region (WPO_all tt_ok (by kernel_rfl) ?_))
    refine WP_seq (WP_seq (WP_region (WPO_all tt_ok (by kernel_rfl) ?_)))
    refine WP_loopA (ρ := Int × Int) (weighA_c2 b k1 v1_1 v1_2) (weighA_b2 b k1 v1_1 v1_2) ((IntKind.i64.wrap ((IntKind.i64.wrap ((b.loads.getD k1 zLoad).w.hi - (b.loads.getD k1 zLoad).w.lo)) + 1)) : Int).toNat (b.loads.length : Int) (fun k : Nat => (k : Int)) (fun (ci : Int) (zz : Int) => ⟨83, [(40, [], .s (.int .i64 ci)), (39, [], .s (.int .i64 (IntKind.i64.wrap ((IntKind.i64.wrap ((b.loads.getD k1 zLoad).w.hi - (b.loads.getD k1 zLoad).w.lo)) + 1)))), (10, [], .s (.int .i64 zz)), (7, [], .s (.int .i64 (k1 : Int))), (8, [], .s (.p 4 0)), (21, [], .s (.int .i64 (k1 : Int))), (20, [], .s (.int .i64 (b.loads.length : Int))), (19, [], .s (.ref 0)), (6, [], .s (.int .i64 v1_1)), (5, [], .s (.int .i64 v1_2)), (1, [], .s (.p 3 0))], [(4, .box 61 [.int .i64 (b.loads.getD k1 zLoad).w.lo, .int .i64 (b.loads.getD k1 zLoad).w.hi, .int .i64 (b.loads.getD k1 zLoad).lanes]), (3, .box 24 [.ref 0, .int .i64 b.rule, .int .i64 b.most]), (0, .sl .ro 61 3 b.loads encLoad zLoad), (1, .pf NobodyAt (· = 1)), (2, .pf LanesAt (· = 0))], 5, []⟩) (fun zz : Int => ⟨83, [(10, [], .s (.int .i64 zz)), (7, [], .s (.int .i64 (k1 : Int))), (21, [], .s (.int .i64 (k1 : Int))), (20, [], .s (.int .i64 (b.loads.length : Int))), (19, [], .s (.ref 0)), (6, [], .s (.int .i64 v1_1)), (5, [], .s (.int .i64 v1_2)), (1, [], .s (.p 3 0))], [(4, .box 61 [.int .i64 (b.loads.getD k1 zLoad).w.lo, .int .i64 (b.loads.getD k1 zLoad).w.hi, .int .i64 (b.loads.getD k1 zLoad).lanes]), (3, .box 24 [.ref 0, .int .i64 b.rule, .int .i64 b.most]), (0, .sl .ro 61 3 b.loads encLoad zLoad), (1, .pf NobodyAt (· = 1)), (2, .pf LanesAt (· = 0))], 5, []⟩) (fun k zz => True) trivial ⟨0, rfl, Le_sel (ts := [40, 39, 10, 7, 8, 21, 20, 19, 6, 5, 1]) (ids := [4, 3, 0, 1, 2]) (nx := 5) (by kernel_rfl)⟩ ?_ ?_
    · intro k2 v2_1 hn2 hp2 hi2 Q2 hq2 ho2
      refine WP_seq (WP_region (WPO_all tt_ok (by kernel_rfl) ?_))
      refine WP_seq (WP_cond (decide ((k2 : Int) < (IntKind.i64.wrap ((IntKind.i64.wrap ((b.loads.getD k1 zLoad).w.hi - (b.loads.getD k1 zLoad).w.lo)) + 1)))) (by kernel_rfl) (fun hc6 => ?_) (fun hc6 => ?_))
      rotate_left
      · refine WP_exit ?_
        show Q2 (.exit 2) _
        exact LA_exit hq2 v2_1 (loopR_end hi2 hc6) ⟨k2, hn2, hp2⟩ (Le_sel (ts := [10, 7, 21, 20, 19, 6, 5, 1]) (ids := [4, 3, 0, 1, 2]) (nx := 5) (by kernel_rfl))
      have hc6' := of_decide_eq_true hc6
      have hk2 : k2 < ((IntKind.i64.wrap ((IntKind.i64.wrap ((b.loads.getD k1 zLoad).w.hi - (b.loads.getD k1 zLoad).w.lo)) + 1)) : Int).toNat := by omega
      refine WP_skip ?_
      refine WP_seq (WP_block ?_)
      refine WP_seq (WP_region (WPO_all tt_ok (by kernel_rfl) ?_))
      refine WP_le (s' := ⟨83, [(11, [], .s (.int .i64 (k2 : Int))), (40, [], .s (.int .i64 (k2 : Int))), (39, [], .s (.int .i64 (IntKind.i64.wrap ((IntKind.i64.wrap ((b.loads.getD k1 zLoad).w.hi - (b.loads.getD k1 zLoad).w.lo)) + 1)))), (10, [], .s (.int .i64 v2_1)), (7, [], .s (.int .i64 (k1 : Int))), (8, [], .s (.p 4 0)), (21, [], .s (.int .i64 (k1 : Int))), (20, [], .s (.int .i64 (b.loads.length : Int))), (19, [], .s (.ref 0)), (6, [], .s (.int .i64 v1_1)), (5, [], .s (.int .i64 v1_2)), (1, [], .s (.p 3 0))], [(4, .box 61 [.int .i64 (b.loads.getD k1 zLoad).w.lo, .int .i64 (b.loads.getD k1 zLoad).w.hi, .int .i64 (b.loads.getD k1 zLoad).lanes]), (3, .box 24 [.ref 0, .int .i64 b.rule, .int .i64 b.most]), (0, .sl .ro 61 3 b.loads encLoad zLoad), (1, .pf NobodyAt (· = 1)), (2, .pf LanesAt (· = 0))], 5, []⟩) (Le_sel (ts := [11, 40, 39, 10, 7, 8, 21, 20, 19, 6, 5, 1]) (ids := [4, 3, 0, 1, 2]) (nx := 5) (by kernel_rfl)) ?_
      refine WP_seq (WP_region (WPO_all tt_ok (by kernel_rfl) ?_))
      refine WP_seq (WP_region (WPO_run tt_ok 2 (by kernel_rfl) ?_))
      refine CALLO 103 [.s (.ref 0)] (.s (.ref 6)) 61 3 (cloneL b.loads) encLoad zLoad 6 (by kernel_rfl) (by kernel_rfl) (goes_of (by kernel_rfl)) (by kernel_rfl) (by kernel_rfl) (fun _ => rfl) ((fun nV w h => cloneL_calls (nV 0) b.loads w (h.reads (id := 0) (kd := .ro) (e := 61) (by kernel_rfl)) (by first | assumption | omega | (simp only [List.length_set, cloneL]; omega)))) ?_
      refine WPO_all tt_ok (by kernel_rfl) ?_
      refine WP_le (s' := ⟨83, [(12, [], .s (.p 5 0)), (11, [], .s (.int .i64 (k2 : Int))), (40, [], .s (.int .i64 (k2 : Int))), (39, [], .s (.int .i64 (IntKind.i64.wrap ((IntKind.i64.wrap ((b.loads.getD k1 zLoad).w.hi - (b.loads.getD k1 zLoad).w.lo)) + 1)))), (10, [], .s (.int .i64 v2_1)), (7, [], .s (.int .i64 (k1 : Int))), (8, [], .s (.p 4 0)), (21, [], .s (.int .i64 (k1 : Int))), (20, [], .s (.int .i64 (b.loads.length : Int))), (19, [], .s (.ref 0)), (6, [], .s (.int .i64 v1_1)), (5, [], .s (.int .i64 v1_2)), (1, [], .s (.p 3 0))], [(6, .sl .own 61 3 (cloneL b.loads) encLoad zLoad), (5, .box 24 [.ref 6, .int .i64 b.rule, .int .i64 b.most]), (4, .box 61 [.int .i64 (b.loads.getD k1 zLoad).w.lo, .int .i64 (b.loads.getD k1 zLoad).w.hi, .int .i64 (b.loads.getD k1 zLoad).lanes]), (3, .box 24 [.ref 0, .int .i64 b.rule, .int .i64 b.most]), (0, .sl .ro 61 3 b.loads encLoad zLoad), (1, .pf NobodyAt (· = 1)), (2, .pf LanesAt (· = 0))], 7, []⟩) (Le_sel (ts := [12, 11, 40, 39, 10, 7, 8, 21, 20, 19, 6, 5, 1]) (ids := [6, 5, 4, 3, 0, 1, 2]) (nx := 7) (by kernel_rfl)) ?_
      refine WP_seq (WP_region (WPO_run tt_ok 14 (by kernel_rfl) ?_))
      refine IX tt_ok (k1 : Int) (cloneL b.loads).length [] (by kernel_rfl) (fun hG => ⟨by omega, by omega⟩) ?_
      refine WPO_run tt_ok 1 (by kernel_rfl) ?_
      refine EST tt_ok 6 (k1 : Int) 3 0 61 43 (cloneL b.loads) encLoad zLoad (⟨(⟨IntKind.i64.wrap ((b.loads.getD k1 zLoad).w.lo + (k2 : Int)), IntKind.i64.wrap ((b.loads.getD k1 zLoad).w.lo + (k2 : Int))⟩ : Span), ((cloneL b.loads).getD k1 zLoad).lanes⟩ : Load) (.g [.int .i64 (IntKind.i64.wrap ((b.loads.getD k1 zLoad).w.lo + (k2 : Int))), .int .i64 (IntKind.i64.wrap ((b.loads.getD k1 zLoad).w.lo + (k2 : Int)))]) (by kernel_rfl) (by kernel_rfl) (by kernel_rfl) (by kernel_rfl) ⟨by omega, by omega⟩ (fun n => rfl) ?_
      refine WPO_nil ?_
      refine WP_le (s' := ⟨83, [(12, [], .s (.p 5 0)), (40, [], .s (.int .i64 (k2 : Int))), (39, [], .s (.int .i64 (IntKind.i64.wrap ((IntKind.i64.wrap ((b.loads.getD k1 zLoad).w.hi - (b.loads.getD k1 zLoad).w.lo)) + 1)))), (10, [], .s (.int .i64 v2_1)), (7, [], .s (.int .i64 (k1 : Int))), (8, [], .s (.p 4 0)), (21, [], .s (.int .i64 (k1 : Int))), (20, [], .s (.int .i64 (b.loads.length : Int))), (19, [], .s (.ref 0)), (6, [], .s (.int .i64 v1_1)), (5, [], .s (.int .i64 v1_2)), (1, [], .s (.p 3 0))], [(6, .sl .own 61 3 ((cloneL b.loads).set k1 (⟨(⟨IntKind.i64.wrap ((b.loads.getD k1 zLoad).w.lo + (k2 : Int)), IntKind.i64.wrap ((b.loads.getD k1 zLoad).w.lo + (k2 : Int))⟩ : Span), ((cloneL b.loads).getD k1 zLoad).lanes⟩ : Load)) encLoad zLoad), (5, .box 24 [.ref 6, .int .i64 b.rule, .int .i64 b.most]), (4, .box 61 [.int .i64 (b.loads.getD k1 zLoad).w.lo, .int .i64 (b.loads.getD k1 zLoad).w.hi, .int .i64 (b.loads.getD k1 zLoad).lanes]), (3, .box 24 [.ref 0, .int .i64 b.rule, .int .i64 b.most]), (0, .sl .ro 61 3 b.loads encLoad zLoad), (1, .pf NobodyAt (· = 1)), (2, .pf LanesAt (· = 0))], 7, []⟩) (Le_sel (ts := [12, 40, 39, 10, 7, 8, 21, 20, 19, 6, 5, 1]) (ids := [6, 5, 4, 3, 0, 1, 2]) (nx := 7) (by kernel_rfl)) ?_
      refine WP_region (WPO_run tt_ok 2 (by kernel_rfl) ?_)
      refine CALLMAP 90 [.g [.ref 6, .int .i64 b.rule, .int .i64 b.most]] (plL (⟨(cloneL b.loads).set k1 (⟨(⟨IntKind.i64.wrap ((b.loads.getD k1 zLoad).w.lo + (k2 : Int)), IntKind.i64.wrap ((b.loads.getD k1 zLoad).w.lo + (k2 : Int))⟩ : Span), ((cloneL b.loads).getD k1 zLoad).lanes⟩ : Load), b.rule, b.most⟩ : DBook)) plKey plVal (fun gM7 => .g [.ref 6, .int .i64 b.rule, .int .i64 b.most, .v (.map (some gM7))]) (by kernel_rfl) (goes_of (by kernel_rfl)) (fun _ => (by kernel_rfl)) (fun _ => (by kernel_rfl)) (fun _ n n' h => by simp only [AV.c, cellsV, part1, AC.c, List.map_cons, List.map_nil, h 6 (by show 6 < 7; decide)]) (fun nV w h => opened_plL (nV 6) (⟨(cloneL b.loads).set k1 (⟨(⟨IntKind.i64.wrap ((b.loads.getD k1 zLoad).w.lo + (k2 : Int)), IntKind.i64.wrap ((b.loads.getD k1 zLoad).w.lo + (k2 : Int))⟩ : Span), ((cloneL b.loads).getD k1 zLoad).lanes⟩ : Load), b.rule, b.most⟩ : DBook) w (h.reads (id := 6) (kd := .own) (e := 61) (by kernel_rfl)) (h.ents (1, .pf NobodyAt (· = 1)) (fnd_mem (by kernel_rfl))).1 (by first | assumption | omega | (simp only [List.length_set, cloneL]; omega))) (fun gM7 => ?_)
      refine CALLSL 95 [.g [.ref 6, .int .i64 b.rule, .int .i64 b.most, .v (.map (some gM7))]] (fun sv8 => .s (.v sv8)) 1 (mostD (⟨(cloneL b.loads).set k1 (⟨(⟨IntKind.i64.wrap ((b.loads.getD k1 zLoad).w.lo + (k2 : Int)), IntKind.i64.wrap ((b.loads.getD k1 zLoad).w.lo + (k2 : Int))⟩ : Span), ((cloneL b.loads).getD k1 zLoad).lanes⟩ : Load), b.rule, b.most⟩ : DBook)) encI 0 (by decide) (by kernel_rfl) (goes_of (by kernel_rfl)) (fun _ => (by kernel_rfl)) (fun _ => (by kernel_rfl)) (fun _ _ _ => rfl) (fun nV w h => mostD_calls (nV 6) gM7 (⟨(cloneL b.loads).set k1 (⟨(⟨IntKind.i64.wrap ((b.loads.getD k1 zLoad).w.lo + (k2 : Int)), IntKind.i64.wrap ((b.loads.getD k1 zLoad).w.lo + (k2 : Int))⟩ : Span), ((cloneL b.loads).getD k1 zLoad).lanes⟩ : Load), b.rule, b.most⟩ : DBook) w (h.reads (id := 6) (kd := .own) (e := 61) (by kernel_rfl)) (h.ents (7, mapE gM7 (plL (⟨(cloneL b.loads).set k1 (⟨(⟨IntKind.i64.wrap ((b.loads.getD k1 zLoad).w.lo + (k2 : Int)), IntKind.i64.wrap ((b.loads.getD k1 zLoad).w.lo + (k2 : Int))⟩ : Span), ((cloneL b.loads).getD k1 zLoad).lanes⟩ : Load), b.rule, b.most⟩ : DBook)) plKey plVal) (fnd_mem (by kernel_rfl))).1 (h.ents (2, .pf LanesAt (· = 0)) (fnd_mem (by kernel_rfl))).1 (by first | assumption | omega | (simp only [List.length_set, cloneL]; omega))) (fun sv8 => ?_)
      refine SLEN tt_ok (.s (.v sv8)) [] (mostD (⟨(cloneL b.loads).set k1 (⟨(⟨IntKind.i64.wrap ((b.loads.getD k1 zLoad).w.lo + (k2 : Int)), IntKind.i64.wrap ((b.loads.getD k1 zLoad).w.lo + (k2 : Int))⟩ : Span), ((cloneL b.loads).getD k1 zLoad).lanes⟩ : Load), b.rule, b.most⟩ : DBook)).length (by kernel_rfl) (fun _ n w h => by obtain ⟨A, c, hv, _⟩ := (h.ents (8, slE sv8 1 (mostD (⟨(cloneL b.loads).set k1 (⟨(⟨IntKind.i64.wrap ((b.loads.getD k1 zLoad).w.lo + (k2 : Int)), IntKind.i64.wrap ((b.loads.getD k1 zLoad).w.lo + (k2 : Int))⟩ : Span), ((cloneL b.loads).getD k1 zLoad).lanes⟩ : Load), b.rule, b.most⟩ : DBook)) encI 0) (fnd_mem (by kernel_rfl))).1; exact ⟨A, c, hv⟩) (by kernel_rfl) ?_
      refine WPO_all tt_ok (by kernel_rfl) ?_
      refine WP_region (WPO_all tt_ok (by kernel_rfl) ?_)
      show Q2 .normal _
      exact LA_go hq2 (ci := IntKind.i64.wrap ((k2 : Int) + 1)) (mn v2_1 ((mostD (⟨(cloneL b.loads).set k1 (⟨(⟨IntKind.i64.wrap ((b.loads.getD k1 zLoad).w.lo + (k2 : Int)), IntKind.i64.wrap ((b.loads.getD k1 zLoad).w.lo + (k2 : Int))⟩ : Span), ((cloneL b.loads).getD k1 zLoad).lanes⟩ : Load), b.rule, b.most⟩ : DBook)).length : Int)) hk2 (by show _ = ((k2 + 1 : Nat) : Int); rw [wrapI (by omega) (by omega)]; omega) (loopR_go hi2 hk2 hc6 (rfl)) trivial (Le_sel (ts := [40, 39, 10, 7, 8, 21, 20, 19, 6, 5, 1]) (ids := [4, 3, 0, 1, 2]) (nx := 5) (by kernel_rfl))
    intro u2_0 hR2 hP2 s' hl
    refine WP_le hl ?_
    clear hl s'
    refine WP_le (s' := ⟨83, [(10, [], .s (.int .i64 u2_0)), (7, [], .s (.int .i64 (k1 : Int))), (21, [], .s (.int .i64 (k1 : Int))), (20, [], .s (.int .i64 (b.loads.length : Int))), (19, [], .s (.ref 0)), (6, [], .s (.int .i64 v1_1)), (5, [], .s (.int .i64 v1_2)), (1, [], .s (.p 3 0))], [(4, .box 61 [.int .i64 (b.loads.getD k1 zLoad).w.lo, .int .i64 (b.loads.getD k1 zLoad).w.hi, .int .i64 (b.loads.getD k1 zLoad).lanes]), (3, .box 24 [.ref 0, .int .i64 b.rule, .int .i64 b.most]), (0, .sl .ro 61 3 b.loads encLoad zLoad), (1, .pf NobodyAt (· = 1)), (2, .pf LanesAt (· = 0))], 5, []⟩) (Le_sel (ts := [10, 7, 21, 20, 19, 6, 5, 1]) (ids := [4, 3, 0, 1, 2]) (nx := 5) (by kernel_rfl)) ?_
    refine WP_seq (WP_region (WPO_run tt_ok 2 (by kernel_rfl) ?_))
    refine LIT tt_ok (by kernel_rfl) ?_
    refine LITSL 5 3 1 1 [.int .i64 v1_1] [v1_1] encI 0 (by kernel_rfl) rfl (fun _ => rfl) (fun n => rfl) ?_
    refine CALL 104 [.s (.int .i64 u2_0), .s (.ref 5)] (.s (.int .i64 (greatestD u2_0 ([v1_1])))) [] (by kernel_rfl) (goes_of (by kernel_rfl)) (by kernel_rfl) (by kernel_rfl) (fun _ nV w h => greatestD_calls (nV 5) u2_0 ([v1_1]) w (h.reads (id := 5) (kd := .own) (e := 3) (by kernel_rfl)) ) ?_
    refine WPO_all tt_ok (by kernel_rfl) ?_
    refine WP_join (decide ((greatestD u2_0 ([v1_1])) > v1_1)) (fun q => ⟨83, [(6, [], .s (.int .i64 (bif q then u2_0 else v1_1))), (5, [], .s (.int .i64 (bif q then (k1 : Int) else v1_2))), (21, [], .s (.int .i64 (k1 : Int))), (20, [], .s (.int .i64 (b.loads.length : Int))), (19, [], .s (.ref 0)), (1, [], .s (.p 3 0))], [(5, .sl .own 3 1 ([v1_1]) encI 0), (4, .box 61 [.int .i64 (b.loads.getD k1 zLoad).w.lo, .int .i64 (b.loads.getD k1 zLoad).w.hi, .int .i64 (b.loads.getD k1 zLoad).lanes]), (3, .box 24 [.ref 0, .int .i64 b.rule, .int .i64 b.most]), (0, .sl .ro 61 3 b.loads encLoad zLoad), (1, .pf NobodyAt (· = 1)), (2, .pf LanesAt (· = 0))], 6, []⟩) (by kernel_rfl) (fun hc8 => ?_) (fun hc8 => ?_) ?_
    · have hc8' := of_decide_eq_true hc8
      refine WP_region (WPO_all tt_ok (by kernel_rfl) ?_)
      exact Le_sel (ts := [6, 5, 21, 20, 19, 1]) (ids := [5, 4, 3, 0, 1, 2]) (nx := 6) (by kernel_rfl)
    · have hc8' := of_decide_eq_false hc8
      refine WP_skip ?_
      exact Le_sel (ts := [6, 5, 21, 20, 19, 1]) (ids := [5, 4, 3, 0, 1, 2]) (nx := 6) (by kernel_rfl)
    refine WP_region (WPO_all tt_ok (by kernel_rfl) ?_)
    show Q1 .normal _
    exact LA_go hq1 (ci := IntKind.i64.wrap ((k1 : Int) + 1)) (bif (decide ((greatestD u2_0 ([v1_1])) > v1_1)) then u2_0 else v1_1, bif (decide ((greatestD u2_0 ([v1_1])) > v1_1)) then (k1 : Int) else v1_2) hk1 (by show _ = ((k1 + 1 : Nat) : Int); rw [wrapI (by omega) (by omega)]; omega) (loopR_go hi1 hk1 hc3 (by unfold weighA_b1; simp only [hc5, hR2, cond_true, cond_false])) trivial (Le_sel (ts := [21, 20, 19, 6, 5, 1]) (ids := [3, 0, 1, 2]) (nx := 4) (by kernel_rfl))
  intro zz hR1 hP1 s' hl
  obtain ⟨u1_0, u1_1⟩ := zz
  refine WP_le hl ?_
  clear hl s'
  refine WP_seq (WP_seq (WP_region (WPO_all tt_ok (by kernel_rfl) ?_)))
  refine WP_cond (decide (u1_1 < 0)) (by kernel_rfl) (fun hc10 => ?_) (fun hc10 => ?_)
  · have hc10' := of_decide_eq_true hc10
    refine WP_seq (WP_region (WPO_all tt_ok (by kernel_rfl) ?_))
    refine WP_ret ?_
    exact ⟨.t [(false, [.int .i64 0]), (false, [.int .i64 4])], by kernel_rfl, fun nV w' h => ⟨by rw [show weighA b = (0, 4) from by unfold weighA; simp only [hc2, hR1, hc10, cond_true, cond_false]]; rfl, h.bel⟩⟩
  have hc10' := of_decide_eq_false hc10
  refine WP_skip ?_
  refine WP_seq (WP_region (WPO_all tt_ok (by kernel_rfl) ?_))
  refine WP_ret ?_
  exact ⟨.t [(false, [.int .i64 u1_1]), (false, [.int .i64 0])], by kernel_rfl, fun nV w' h => ⟨by rw [show weighA b = (u1_1, 0) from by unfold weighA; simp only [hc2, hR1, hc10, cond_true, cond_false]]; rfl, h.bel⟩⟩
end Go.Proofs.YthfnedbpmdkdjaaDoor.D
namespace Go.Proofs.YthfnedbpmdkdjaaDoor.D
open Go Go.RowKit Go.Proofs.YthfnedbpmdkdjaaDoor.Eng Go.Proofs.YthfnedbpmdkdjaaDoor.Cm
set_option linter.unusedVariables false
set_option linter.unusedSimpArgs false
set_option linter.unusedSectionVars false
def loadL (weight : Span) (lanes : Int) : Load :=
  (⟨weight, lanes⟩ : Load)
theorem loadL_calls  (weight : Span) (lanes : Int) (w : World)   : Calls Tryd.prog 42 #[.agg #[iv weight.lo, iv weight.hi], iv lanes] w fun e w' => e = .returned (.agg #[iv (loadL weight lanes).w.lo, iv (loadL weight lanes).w.hi, iv (loadL weight lanes).lanes]) ∧ Below w.heap.size w w' := by
  refine calls_of_WP (cx := cx0 w Eng.n0 0) (n := Eng.n0) (vs := [.g [.int .i64 weight.lo, .int .i64 weight.hi], .s (.int .i64 lanes)]) (hp := []) (nx := 0) tt_ok Tryd.func42 rfl rfl rfl (by kernel_rfl) (HSat0 _ _ _ _ _ _ (fun _ => rfl) (Nat.le_refl _)) (vsOk (by kernel_rfl)) ?_
  refine WP_seq (WP_region (WPO_all tt_ok (by kernel_rfl) ?_))
  refine WP_seq (WP_region (WPO_all tt_ok (by kernel_rfl) ?_))
  refine WP_ret ?_
  exact ⟨.g [.int .i64 weight.lo, .int .i64 weight.hi, .int .i64 lanes], by kernel_rfl, fun nV w' h => ⟨by rw [show loadL weight lanes = (⟨weight, lanes⟩ : Load) from rfl]; rfl, h.bel⟩⟩
def placeL (at_ : Int) (lane : Int) : Place :=
  (⟨at_, lane⟩ : Place)
theorem placeL_calls  (at_ : Int) (lane : Int) (w : World)   : Calls Tryd.prog 44 #[iv at_, iv lane] w fun e w' => e = .returned (.agg #[iv (placeL at_ lane).load, iv (placeL at_ lane).lane]) ∧ Below w.heap.size w w' := by
  refine calls_of_WP (cx := cx0 w Eng.n0 0) (n := Eng.n0) (vs := [.s (.int .i64 at_), .s (.int .i64 lane)]) (hp := []) (nx := 0) tt_ok Tryd.func44 rfl rfl rfl (by kernel_rfl) (HSat0 _ _ _ _ _ _ (fun _ => rfl) (Nat.le_refl _)) (vsOk (by kernel_rfl)) ?_
  refine WP_seq (WP_region (WPO_all tt_ok (by kernel_rfl) ?_))
  refine WP_seq (WP_region (WPO_all tt_ok (by kernel_rfl) ?_))
  refine WP_ret ?_
  exact ⟨.g [.int .i64 at_, .int .i64 lane], by kernel_rfl, fun nV w' h => ⟨by rw [show placeL at_ lane = (⟨at_, lane⟩ : Place) from rfl]; rfl, h.bel⟩⟩
def bookL (rule : Int) (most : Int) : DBook :=
  (⟨[(loadL (rangeF 10 12) 5), (loadL (rangeF 10 11) 5), (loadL (pointF 6) 7), (loadL (rangeF 20 22) 2)], rule, most⟩ : DBook)
theorem bookL_calls  (rule : Int) (most : Int) (w : World)   : Calls Tryd.prog 64 #[iv rule, iv most] w fun e w' => ∃ v0, e = .returned (.agg #[v0, iv (bookL rule most).rule, iv (bookL rule most).most]) ∧ Below w.heap.size w w' ∧ w'.ownsRow w.heap.size 61 3 v0 (bookL rule most).loads.length (flat (bookL rule most).loads encLoad) := by
  refine calls_of_WP (cx := cx0 w Eng.n0 0) (n := Eng.n0) (vs := [.s (.int .i64 rule), .s (.int .i64 most)]) (hp := []) (nx := 0) tt_ok Tryd.func64 rfl rfl rfl (by kernel_rfl) (HSat0 _ _ _ _ _ _ (fun _ => rfl) (Nat.le_refl _)) (vsOk (by kernel_rfl)) ?_
  refine WP_seq (WP_region (WPO_all tt_ok (by kernel_rfl) ?_))
  refine WP_seq (WP_region (CALL 40 [.s (.int .i64 10), .s (.int .i64 12)] (.g [.int .i64 (rangeF 10 12).lo, .int .i64 (rangeF 10 12).hi]) [] (by kernel_rfl) (goes_of (by kernel_rfl)) (by kernel_rfl) (by kernel_rfl) (fun _ nV w h => rangeF_calls  10 12 w  ) ?_))
  refine CALL 42 [.g [.int .i64 (rangeF 10 12).lo, .int .i64 (rangeF 10 12).hi], .s (.int .i64 5)] (.g [.int .i64 (loadL (rangeF 10 12) 5).w.lo, .int .i64 (loadL (rangeF 10 12) 5).w.hi, .int .i64 (loadL (rangeF 10 12) 5).lanes]) [] (by kernel_rfl) (goes_of (by kernel_rfl)) (by kernel_rfl) (by kernel_rfl) (fun _ nV w h => loadL_calls  (rangeF 10 12) 5 w  ) ?_
  refine CALL 40 [.s (.int .i64 10), .s (.int .i64 11)] (.g [.int .i64 (rangeF 10 11).lo, .int .i64 (rangeF 10 11).hi]) [] (by kernel_rfl) (goes_of (by kernel_rfl)) (by kernel_rfl) (by kernel_rfl) (fun _ nV w h => rangeF_calls  10 11 w  ) ?_
  refine CALL 42 [.g [.int .i64 (rangeF 10 11).lo, .int .i64 (rangeF 10 11).hi], .s (.int .i64 5)] (.g [.int .i64 (loadL (rangeF 10 11) 5).w.lo, .int .i64 (loadL (rangeF 10 11) 5).w.hi, .int .i64 (loadL (rangeF 10 11) 5).lanes]) [] (by kernel_rfl) (goes_of (by kernel_rfl)) (by kernel_rfl) (by kernel_rfl) (fun _ nV w h => loadL_calls  (rangeF 10 11) 5 w  ) ?_
  refine CALL 65 [.s (.int .i64 6)] (.g [.int .i64 (pointF 6).lo, .int .i64 (pointF 6).hi]) [] (by kernel_rfl) (goes_of (by kernel_rfl)) (by kernel_rfl) (by kernel_rfl) (fun _ nV w h => pointF_calls  6 w  ) ?_
  refine CALL 42 [.g [.int .i64 (pointF 6).lo, .int .i64 (pointF 6).hi], .s (.int .i64 7)] (.g [.int .i64 (loadL (pointF 6) 7).w.lo, .int .i64 (loadL (pointF 6) 7).w.hi, .int .i64 (loadL (pointF 6) 7).lanes]) [] (by kernel_rfl) (goes_of (by kernel_rfl)) (by kernel_rfl) (by kernel_rfl) (fun _ nV w h => loadL_calls  (pointF 6) 7 w  ) ?_
  refine CALL 40 [.s (.int .i64 20), .s (.int .i64 22)] (.g [.int .i64 (rangeF 20 22).lo, .int .i64 (rangeF 20 22).hi]) [] (by kernel_rfl) (goes_of (by kernel_rfl)) (by kernel_rfl) (by kernel_rfl) (fun _ nV w h => rangeF_calls  20 22 w  ) ?_
  refine CALL 42 [.g [.int .i64 (rangeF 20 22).lo, .int .i64 (rangeF 20 22).hi], .s (.int .i64 2)] (.g [.int .i64 (loadL (rangeF 20 22) 2).w.lo, .int .i64 (loadL (rangeF 20 22) 2).w.hi, .int .i64 (loadL (rangeF 20 22) 2).lanes]) [] (by kernel_rfl) (goes_of (by kernel_rfl)) (by kernel_rfl) (by kernel_rfl) (fun _ nV w h => loadL_calls  (rangeF 20 22) 2 w  ) ?_
  refine LIT tt_ok (by kernel_rfl) ?_
  refine LITSL 1 61 4 3 [.int .i64 (loadL (rangeF 10 12) 5).w.lo, .int .i64 (loadL (rangeF 10 12) 5).w.hi, .int .i64 (loadL (rangeF 10 12) 5).lanes, .int .i64 (loadL (rangeF 10 11) 5).w.lo, .int .i64 (loadL (rangeF 10 11) 5).w.hi, .int .i64 (loadL (rangeF 10 11) 5).lanes, .int .i64 (loadL (pointF 6) 7).w.lo, .int .i64 (loadL (pointF 6) 7).w.hi, .int .i64 (loadL (pointF 6) 7).lanes, .int .i64 (loadL (rangeF 20 22) 2).w.lo, .int .i64 (loadL (rangeF 20 22) 2).w.hi, .int .i64 (loadL (rangeF 20 22) 2).lanes] [(loadL (rangeF 10 12) 5), (loadL (rangeF 10 11) 5), (loadL (pointF 6) 7), (loadL (rangeF 20 22) 2)] encLoad zLoad (by kernel_rfl) rfl (fun _ => rfl) (fun n => rfl) ?_
  refine WPO_all tt_ok (by kernel_rfl) ?_
  refine WP_ret ?_
  exact ⟨.g [.ref 1, .int .i64 rule, .int .i64 most], by kernel_rfl, fun nV w' h => ⟨nV 1, by rw [show bookL rule most = (⟨[(loadL (rangeF 10 12) 5), (loadL (rangeF 10 11) 5), (loadL (pointF 6) 7), (loadL (rangeF 20 22) 2)], rule, most⟩ : DBook) from rfl]; rfl, h.bel, by rw [show bookL rule most = (⟨[(loadL (rangeF 10 12) 5), (loadL (rangeF 10 11) 5), (loadL (pointF 6) 7), (loadL (rangeF 20 22) 2)], rule, most⟩ : DBook) from rfl]; exact own_of (z := zLoad) h (by kernel_rfl)⟩⟩
def ownL  : DBook :=
  (bookL 12 40)
theorem ownL_calls   (w : World)   : Calls Tryd.prog 63 #[] w fun e w' => ∃ v0, e = .returned (.agg #[v0, iv ownL.rule, iv ownL.most]) ∧ Below w.heap.size w w' ∧ w'.ownsRow w.heap.size 61 3 v0 ownL.loads.length (flat ownL.loads encLoad) := by
  refine calls_of_WP (cx := cx0 w Eng.n0 0) (n := Eng.n0) (vs := []) (hp := []) (nx := 0) tt_ok Tryd.func63 rfl rfl rfl (by kernel_rfl) (HSat0 _ _ _ _ _ _ (fun _ => rfl) (Nat.le_refl _)) (vsOk (by kernel_rfl)) ?_
  refine WP_seq (WP_region (WPO_all tt_ok (by kernel_rfl) ?_))
  refine WP_seq (WP_region (CALLO 64 [.s (.int .i64 12), .s (.int .i64 40)] (.g [.ref 1, .int .i64 (bookL 12 40).rule, .int .i64 (bookL 12 40).most]) 61 3 (bookL 12 40).loads encLoad zLoad 1 (by kernel_rfl) (by kernel_rfl) (goes_of (by kernel_rfl)) (by kernel_rfl) (by kernel_rfl) (fun _ => rfl) ((fun nV w h => bookL_calls  12 40 w  )) ?_))
  refine WPO_all tt_ok (by kernel_rfl) ?_
  refine WP_ret ?_
  exact ⟨.g [.ref 1, .int .i64 (bookL 12 40).rule, .int .i64 (bookL 12 40).most], by kernel_rfl, fun nV w' h => ⟨nV 1, by rw [show ownL = (bookL 12 40) from rfl]; rfl, h.bel, by rw [show ownL = (bookL 12 40) from rfl]; exact own_of (z := zLoad) h (by kernel_rfl)⟩⟩
def strictL  : DBook :=
  (bookL 11 40)
theorem strictL_calls   (w : World)   : Calls Tryd.prog 67 #[] w fun e w' => ∃ v0, e = .returned (.agg #[v0, iv strictL.rule, iv strictL.most]) ∧ Below w.heap.size w w' ∧ w'.ownsRow w.heap.size 61 3 v0 strictL.loads.length (flat strictL.loads encLoad) := by
  refine calls_of_WP (cx := cx0 w Eng.n0 0) (n := Eng.n0) (vs := []) (hp := []) (nx := 0) tt_ok Tryd.func67 rfl rfl rfl (by kernel_rfl) (HSat0 _ _ _ _ _ _ (fun _ => rfl) (Nat.le_refl _)) (vsOk (by kernel_rfl)) ?_
  refine WP_seq (WP_region (WPO_all tt_ok (by kernel_rfl) ?_))
  refine WP_seq (WP_region (CALLO 64 [.s (.int .i64 11), .s (.int .i64 40)] (.g [.ref 1, .int .i64 (bookL 11 40).rule, .int .i64 (bookL 11 40).most]) 61 3 (bookL 11 40).loads encLoad zLoad 1 (by kernel_rfl) (by kernel_rfl) (goes_of (by kernel_rfl)) (by kernel_rfl) (by kernel_rfl) (fun _ => rfl) ((fun nV w h => bookL_calls  11 40 w  )) ?_))
  refine WPO_all tt_ok (by kernel_rfl) ?_
  refine WP_ret ?_
  exact ⟨.g [.ref 1, .int .i64 (bookL 11 40).rule, .int .i64 (bookL 11 40).most], by kernel_rfl, fun nV w' h => ⟨nV 1, by rw [show strictL = (bookL 11 40) from rfl]; rfl, h.bel, by rw [show strictL = (bookL 11 40) from rfl]; exact own_of (z := zLoad) h (by kernel_rfl)⟩⟩
def lightL  : DBook :=
  (bookL 12 28)
theorem lightL_calls   (w : World)   : Calls Tryd.prog 71 #[] w fun e w' => ∃ v0, e = .returned (.agg #[v0, iv lightL.rule, iv lightL.most]) ∧ Below w.heap.size w w' ∧ w'.ownsRow w.heap.size 61 3 v0 lightL.loads.length (flat lightL.loads encLoad) := by
  refine calls_of_WP (cx := cx0 w Eng.n0 0) (n := Eng.n0) (vs := []) (hp := []) (nx := 0) tt_ok Tryd.func71 rfl rfl rfl (by kernel_rfl) (HSat0 _ _ _ _ _ _ (fun _ => rfl) (Nat.le_refl _)) (vsOk (by kernel_rfl)) ?_
  refine WP_seq (WP_region (WPO_all tt_ok (by kernel_rfl) ?_))
  refine WP_seq (WP_region (CALLO 64 [.s (.int .i64 12), .s (.int .i64 28)] (.g [.ref 1, .int .i64 (bookL 12 28).rule, .int .i64 (bookL 12 28).most]) 61 3 (bookL 12 28).loads encLoad zLoad 1 (by kernel_rfl) (by kernel_rfl) (goes_of (by kernel_rfl)) (by kernel_rfl) (by kernel_rfl) (fun _ => rfl) ((fun nV w h => bookL_calls  12 28 w  )) ?_))
  refine WPO_all tt_ok (by kernel_rfl) ?_
  refine WP_ret ?_
  exact ⟨.g [.ref 1, .int .i64 (bookL 12 28).rule, .int .i64 (bookL 12 28).most], by kernel_rfl, fun nV w' h => ⟨nV 1, by rw [show lightL = (bookL 12 28) from rfl]; rfl, h.bel, by rw [show lightL = (bookL 12 28) from rfl]; exact own_of (z := zLoad) h (by kernel_rfl)⟩⟩
def wideL  : DBook :=
  (⟨ownL.loads ++ ([(loadL (pointF 30) 1)]), ownL.rule, ownL.most⟩ : DBook)
theorem wideL_calls   (w : World)   : Calls Tryd.prog 69 #[] w fun e w' => ∃ v0, e = .returned (.agg #[v0, iv wideL.rule, iv wideL.most]) ∧ Below w.heap.size w w' ∧ w'.ownsRow w.heap.size 61 3 v0 wideL.loads.length (flat wideL.loads encLoad) := by
  refine calls_of_WP (cx := cx0 w Eng.n0 0) (n := Eng.n0) (vs := []) (hp := []) (nx := 0) tt_ok Tryd.func69 rfl rfl rfl (by kernel_rfl) (HSat0 _ _ _ _ _ _ (fun _ => rfl) (Nat.le_refl _)) (vsOk (by kernel_rfl)) ?_
  have hol : ownL.loads.length = 4 := rfl
  refine WP_seq (WP_region (WPO_all tt_ok (by kernel_rfl) ?_))
  refine WP_seq (WP_region (CALLO 63 [] (.g [.ref 1, .int .i64 ownL.rule, .int .i64 ownL.most]) 61 3 ownL.loads encLoad zLoad 1 (by kernel_rfl) (by kernel_rfl) (goes_of (by kernel_rfl)) (by kernel_rfl) (by kernel_rfl) (fun _ => rfl) ((fun nV w h => ownL_calls   w  )) ?_))
  refine WPO_all tt_ok (by kernel_rfl) ?_
  refine WP_seq (WP_drawHM 7 [1] [2] (by kernel_rfl) (by kernel_rfl) ?_)
  refine H_run tt_ok [0, 1] (f' := 5) (by kernel_rfl) (by kernel_rfl) (by kernel_rfl) ?_
  refine H_step 2 (by kernel_rfl) (by kernel_rfl) (fun hfz cx' hx1 hx2 => ?_)
  refine CALL 65 [.s (.int .i64 30)] (.g [.int .i64 (pointF 30).lo, .int .i64 (pointF 30).hi]) [] (by kernel_rfl) (goes_of (by kernel_rfl)) (by kernel_rfl) (by kernel_rfl) (fun _ nV w h => pointF_calls  30 w  ) ?_
  refine WPO_end (by kernel_rfl) ⟨rfl, (hfz.fnds [2, 0] (by kernel_rfl) ⟨by kernel_rfl, by kernel_rfl, trivial⟩ (by kernel_rfl)), ?_⟩
  refine H_step 3 (by kernel_rfl) (by kernel_rfl) (fun hfz cx' hx1 hx2 => ?_)
  refine CALL 42 [.g [.int .i64 (pointF 30).lo, .int .i64 (pointF 30).hi], .s (.int .i64 1)] (.g [.int .i64 (loadL (pointF 30) 1).w.lo, .int .i64 (loadL (pointF 30) 1).w.hi, .int .i64 (loadL (pointF 30) 1).lanes]) [] (by kernel_rfl) (goes_of (by kernel_rfl)) (by kernel_rfl) (by kernel_rfl) (fun _ nV w h => loadL_calls  (pointF 30) 1 w  ) ?_
  refine WPO_end (by kernel_rfl) ⟨rfl, (hfz.fnds [2, 0] (by kernel_rfl) ⟨by kernel_rfl, by kernel_rfl, trivial⟩ (by kernel_rfl)), ?_⟩
  refine H_step 4 (by kernel_rfl) (by kernel_rfl) (fun hfz cx' hx1 hx2 => ?_)
  refine LIT tt_ok (by kernel_rfl) ?_
  refine LITSL 3 61 1 3 [.int .i64 (loadL (pointF 30) 1).w.lo, .int .i64 (loadL (pointF 30) 1).w.hi, .int .i64 (loadL (pointF 30) 1).lanes] [(loadL (pointF 30) 1)] encLoad zLoad (by kernel_rfl) rfl (fun _ => rfl) (fun n => rfl) ?_
  refine WPO_end (by kernel_rfl) ⟨rfl, (hfz.fnds [2, 0] (by kernel_rfl) ⟨by kernel_rfl, by kernel_rfl, trivial⟩ (by kernel_rfl)), ?_⟩
  refine H_step 5 (by kernel_rfl) (by kernel_rfl) (fun hfz cx' hx1 hx2 => ?_)
  refine APP tt_ok (.s (.ref 1)) (.s (.ref 3)) 22 61 (some 8) 3 ownL.loads ([(loadL (pointF 30) 1)]) encLoad zLoad (by kernel_rfl) (by kernel_rfl) (by kernel_rfl) (by kernel_rfl) (.inr (.inl ⟨1, rfl, (by kernel_rfl)⟩)) (.inr ⟨3, .own, rfl, (by kernel_rfl), (by simp only [List.length_cons, List.length_nil]; omega)⟩) (by simp) (fun y => rfl) (fun y => List.all_eq_true.1 rfl) (fun i hi => (by have hby : (tyL tt 61).map (·.bytes) = some 24 := (by kernel_rfl); rw [hi] at hby; simp only [Option.map_some, Option.some.injEq] at hby; rw [hby]; simp only [List.length_append, List.length_cons, List.length_nil]; omega)) ?_
  refine WPO_end (by kernel_rfl) ⟨rfl, (hfz.fnds [2, 0] (by kernel_rfl) ⟨by kernel_rfl, by kernel_rfl, trivial⟩ (by kernel_rfl)), ?_⟩
  refine H_run tt_ok [6] (f' := 0) (by kernel_rfl) (by kernel_rfl) (by kernel_rfl) ?_
  refine H_done (by kernel_rfl) ?_
  refine ⟨(by kernel_rfl), ?_⟩
  refine H_step 7 (by kernel_rfl) (by kernel_rfl) (fun hfz cx' hx1 hx2 => ?_)
  refine WPO_all tt_ok (by kernel_rfl) ?_
  refine ⟨rfl, (hfz.fnds [4, 3, 0] (by kernel_rfl) ⟨by kernel_rfl, by kernel_rfl, by kernel_rfl, trivial⟩ (by kernel_rfl)), ?_⟩
  refine H_done (by kernel_rfl) ?_
  refine WP_seq (WP_region (WPO_all tt_ok (by kernel_rfl) ?_))
  refine WP_ret ?_
  exact ⟨.g [.ref 4, .int .i64 ownL.rule, .int .i64 ownL.most], by kernel_rfl, fun nV w' h => ⟨nV 4, by rw [show wideL = (⟨ownL.loads ++ ([(loadL (pointF 30) 1)]), ownL.rule, ownL.most⟩ : DBook) from rfl]; rfl, h.bel, by rw [show wideL = (⟨ownL.loads ++ ([(loadL (pointF 30) 1)]), ownL.rule, ownL.most⟩ : DBook) from rfl]; exact own_of (z := zLoad) h (by kernel_rfl)⟩⟩
def bothL  : (List Place) :=
  [(placeL 0 0), (placeL 1 2)]
theorem bothL_calls   (w : World)   : Calls Tryd.prog 68 #[] w fun e w' => ∃ v0, e = .returned (v0) ∧ Below w.heap.size w w' ∧ w'.ownsRow w.heap.size 65 2 v0 bothL.length (flat bothL encPlace) := by
  refine calls_of_WP (cx := cx0 w Eng.n0 0) (n := Eng.n0) (vs := []) (hp := []) (nx := 0) tt_ok Tryd.func68 rfl rfl rfl (by kernel_rfl) (HSat0 _ _ _ _ _ _ (fun _ => rfl) (Nat.le_refl _)) (vsOk (by kernel_rfl)) ?_
  refine WP_seq (WP_region (WPO_all tt_ok (by kernel_rfl) ?_))
  refine WP_seq (WP_region (CALL 44 [.s (.int .i64 0), .s (.int .i64 0)] (.g [.int .i64 (placeL 0 0).load, .int .i64 (placeL 0 0).lane]) [] (by kernel_rfl) (goes_of (by kernel_rfl)) (by kernel_rfl) (by kernel_rfl) (fun _ nV w h => placeL_calls  0 0 w  ) ?_))
  refine CALL 44 [.s (.int .i64 1), .s (.int .i64 2)] (.g [.int .i64 (placeL 1 2).load, .int .i64 (placeL 1 2).lane]) [] (by kernel_rfl) (goes_of (by kernel_rfl)) (by kernel_rfl) (by kernel_rfl) (fun _ nV w h => placeL_calls  1 2 w  ) ?_
  refine LIT tt_ok (by kernel_rfl) ?_
  refine LITSL 0 65 2 2 [.int .i64 (placeL 0 0).load, .int .i64 (placeL 0 0).lane, .int .i64 (placeL 1 2).load, .int .i64 (placeL 1 2).lane] [(placeL 0 0), (placeL 1 2)] encPlace zPlace (by kernel_rfl) rfl (fun _ => rfl) (fun n => rfl) ?_
  refine WPO_all tt_ok (by kernel_rfl) ?_
  refine WP_ret ?_
  exact ⟨.s (.ref 0), by kernel_rfl, fun nV w' h => ⟨nV 0, rfl, h.bel, by rw [show bothL = ([(placeL 0 0), (placeL 1 2)]) from rfl]; exact own_of (z := zPlace) h (by kernel_rfl)⟩⟩
def sameL_c1 (l : List Place) (m : List Place) (k1 : Nat) : Unit → Bool := fun _ => decide ((k1 : Int) < (l.length : Int))
def sameL_b1 (l : List Place) (m : List Place) (k1 : Nat) : Unit → Bd Unit Bool := fun _ => (bif !((l.getD k1 zPlace).load == (m.getD k1 zPlace).load && (l.getD k1 zPlace).lane == (m.getD k1 zPlace).lane) then .ret false else .go ())
def sameL (l : List Place) (m : List Place) : Bool :=
  (bif (l.length : Int) != (m.length : Int) then false else (match loopR (sameL_c1 l m) (sameL_b1 l m) l.length 0 () with | .brk () => true | .ret r => r))
theorem sameL_calls (g0 g1 : Value) (l : List Place) (m : List Place) (w : World) (r0 : Reads w g0 2 l encPlace zPlace) (r1 : Reads w g1 2 m encPlace zPlace)  : Calls Tryd.prog 70 #[g0, g1] w fun e w' => e = .returned (.bool (sameL l m)) ∧ Below w.heap.size w w' := by
  refine calls_of_WP (cx := cx0 w (vn [g0, g1]) 2) (n := vn [g0, g1]) (vs := [.s (.ref 0), .s (.ref 1)]) (hp := [(0, .sl .ro 65 2 l encPlace zPlace), (1, .sl .ro 65 2 m encPlace zPlace)]) (nx := 2) tt_ok Tryd.func70 rfl rfl rfl (by kernel_rfl) (HSat_args (vn_one (by simp [r0.one, r1.one])) (Nat.le_refl _) ⟨⟨⟨fun _ => rfl, by decide, r0⟩, (Nat.le_of_ble_eq_true rfl)⟩, ⟨⟨fun _ => rfl, by decide, r1⟩, (Nat.le_of_ble_eq_true rfl)⟩, trivial⟩) (vsOk (by kernel_rfl)) ?_
  have hl0 := Reads.len r0
  have hl1 := Reads.len r1
  refine WP_seq (WP_region (WPO_all tt_ok (by kernel_rfl) ?_))
  refine WP_seq (WP_seq (WP_region (WPO_all tt_ok (by kernel_rfl) ?_)))
  refine WP_cond ((l.length : Int) != (m.length : Int)) (by kernel_rfl) (fun hc2 => ?_) (fun hc2 => ?_)
  · have hc2' := hc2; try simp only [Bool.and_eq_true, Bool.or_eq_true, Bool.and_eq_false_iff, Bool.or_eq_false_iff, Bool.not_eq_true', Bool.not_eq_false', decide_eq_true_eq, decide_eq_false_iff_not, beq_iff_eq, beq_eq_false_iff_ne, bne_iff_ne, bne_eq_false_iff_eq, ne_eq] at hc2'
    refine WP_seq (WP_region (WPO_all tt_ok (by kernel_rfl) ?_))
    refine WP_ret ?_
    exact ⟨.s (.bool false), by kernel_rfl, fun nV w' h => ⟨by rw [show sameL l m = false from by unfold sameL; simp only [hc2, cond_true, cond_false]]; rfl, h.bel⟩⟩
  have hc2' := hc2; try simp only [Bool.and_eq_true, Bool.or_eq_true, Bool.and_eq_false_iff, Bool.or_eq_false_iff, Bool.not_eq_true', Bool.not_eq_false', decide_eq_true_eq, decide_eq_false_iff_not, beq_iff_eq, beq_eq_false_iff_ne, bne_iff_ne, bne_eq_false_iff_eq, ne_eq] at hc2'
  refine WP_skip ?_
  refine WP_seq (WP_seq (WP_region (WPO_all tt_ok (by kernel_rfl) ?_)))
  refine WP_loopA (ρ := Bool) (sameL_c1 l m) (sameL_b1 l m) l.length () (fun k : Nat => (k : Int)) (fun (ci : Int) (zz : Unit) => ⟨26, [(5, [], .s (.int .i64 ci)), (0, [], .s (.ref 0)), (1, [], .s (.ref 1))], [(0, .sl .ro 65 2 l encPlace zPlace), (1, .sl .ro 65 2 m encPlace zPlace)], 2, []⟩) (fun zz : Unit => ⟨26, [], [(0, .sl .ro 65 2 l encPlace zPlace), (1, .sl .ro 65 2 m encPlace zPlace)], 2, []⟩) (fun k zz => True) trivial ⟨0, rfl, Le_sel (ts := [5, 0, 1]) (ids := [0, 1]) (nx := 2) (by kernel_rfl)⟩ ?_ ?_
  · intro k1 zz hn1 hp1 hi1 Q1 hq1 ho1
    refine WP_seq (WP_seq (WP_region (WPO_all tt_ok (by kernel_rfl) ?_)))
    refine WP_cond (decide ((k1 : Int) < (l.length : Int))) (by kernel_rfl) (fun hc3 => ?_) (fun hc3 => ?_)
    rotate_left
    · refine WP_exit ?_
      show Q1 (.exit 0) _
      exact LA_exit hq1 () (loopR_end hi1 hc3) ⟨k1, hn1, hp1⟩ (Le_sel (ts := []) (ids := [0, 1]) (nx := 2) (by kernel_rfl))
    have hc3' := of_decide_eq_true hc3
    have hk1 : k1 < l.length := by omega
    refine WP_skip ?_
    refine WP_seq (WP_block ?_)
    refine WP_seq (WP_draw (by kernel_rfl) (by kernel_rfl) ?_)
    refine WPQ_run tt_ok 2 (by kernel_rfl) ?_
    refine QIX tt_ok (k1 : Int) l.length [] (by kernel_rfl) (fun hG => ⟨by omega, by omega⟩) ?_
    refine WPQ_run tt_ok 3 (by kernel_rfl) ?_
    refine QIX tt_ok (k1 : Int) m.length [] (by kernel_rfl) (fun hG => ⟨by omega, by omega⟩) ?_
    refine WPQ_run tt_ok 1 (by kernel_rfl) ?_
    refine QBIN .neq 65 (.tmp 20) (.tmp 24) (.g [.int .i64 (l.getD k1 zPlace).load, .int .i64 (l.getD k1 zPlace).lane]) (.g [.int .i64 (m.getD k1 zPlace).load, .int .i64 (m.getD k1 zPlace).lane]) (.s (.bool (!((l.getD k1 zPlace).load == (m.getD k1 zPlace).load && (l.getD k1 zPlace).lane == (m.getD k1 zPlace).lane)))) [] (by kernel_rfl) (by kernel_rfl) (by kernel_rfl) (fun _ => BinOk_pairN (by kernel_rfl) _ _ _ _) ?_
    refine WPQ_nil ?_
    refine WP_cond (!((l.getD k1 zPlace).load == (m.getD k1 zPlace).load && (l.getD k1 zPlace).lane == (m.getD k1 zPlace).lane)) (by kernel_rfl) (fun hc5 => ?_) (fun hc5 => ?_)
    · have hc5' := hc5; try simp only [Bool.and_eq_true, Bool.or_eq_true, Bool.and_eq_false_iff, Bool.or_eq_false_iff, Bool.not_eq_true', Bool.not_eq_false', decide_eq_true_eq, decide_eq_false_iff_not, beq_iff_eq, beq_eq_false_iff_ne, bne_iff_ne, bne_eq_false_iff_eq, ne_eq] at hc5'
      refine WP_seq (WP_region (WPO_all tt_ok (by kernel_rfl) ?_))
      refine WP_ret ?_
      show Q1 .ret _
      refine LA_ret hq1 ?_
      have he6 := loopR_ret (r := false) hi1 hk1 hc3 (by unfold sameL_b1; simp only [hc5, cond_true, cond_false])
      exact ⟨.s (.bool false), by kernel_rfl, fun nV w' h => ⟨by rw [show sameL l m = false from by unfold sameL; simp only [hc2, he6, cond_true, cond_false]]; rfl, h.bel⟩⟩
    have hc5' := hc5; try simp only [Bool.and_eq_true, Bool.or_eq_true, Bool.and_eq_false_iff, Bool.or_eq_false_iff, Bool.not_eq_true', Bool.not_eq_false', decide_eq_true_eq, decide_eq_false_iff_not, beq_iff_eq, beq_eq_false_iff_ne, bne_iff_ne, bne_eq_false_iff_eq, ne_eq] at hc5'
    refine WP_skip ?_
    refine WP_region (WPO_all tt_ok (by kernel_rfl) ?_)
    show Q1 .normal _
    exact LA_go hq1 (ci := IntKind.i64.wrap ((k1 : Int) + 1)) () hk1 (by show _ = ((k1 + 1 : Nat) : Int); rw [wrapI (by omega) (by omega)]; omega) (loopR_go hi1 hk1 hc3 (by unfold sameL_b1; simp only [hc5, cond_true, cond_false])) trivial (Le_sel (ts := [5, 0, 1]) (ids := [0, 1]) (nx := 2) (by kernel_rfl))
  intro zz hR1 hP1 s' hl
  refine WP_le hl ?_
  clear hl s'
  refine WP_seq (WP_region (WPO_all tt_ok (by kernel_rfl) ?_))
  refine WP_ret ?_
  exact ⟨.s (.bool true), by kernel_rfl, fun nV w' h => ⟨by rw [show sameL l m = true from by unfold sameL; simp only [hc2, hR1, cond_true, cond_false]]; rfl, h.bel⟩⟩
end Go.Proofs.YthfnedbpmdkdjaaDoor.D
namespace Go.Proofs.YthfnedbpmdkdjaaDoor.D
open Go Go.RowKit Go.Proofs.YthfnedbpmdkdjaaDoor.Eng Go.Proofs.YthfnedbpmdkdjaaDoor.Cm
set_option linter.unusedVariables false
set_option linter.unusedSimpArgs false
set_option linter.unusedSectionVars false
def stowedL  : Bool :=
  (bif ((((((((((listA ownL bothL).2 != 0) || ((levelA strictL ([(placeL 0 0)])).2 != 0)) || ((tiltsA ownL ([(placeL 0 0), (placeL 1 0)])).2 != 0)) || ((stowA strictL ([0, 1])).2 != 0)) || ((mostA ownL).2 != 0)) || (!((listA ownL bothL).1.lo == (rangeF (-1) 2).lo && (listA ownL bothL).1.hi == (rangeF (-1) 2).hi))) || ((levelA strictL ([(placeL 0 0)])).1 != 1)) || ((tiltsA ownL ([(placeL 0 0), (placeL 1 0)])).1 != 1)) || (!(sameL (stowA strictL ([0, 1])).1 (bif (true && ((((((((((listA ownL bothL).2 != 0) || ((levelA strictL ([(placeL 0 0)])).2 != 0)) || ((tiltsA ownL ([(placeL 0 0), (placeL 1 0)])).2 != 0)) || ((stowA strictL ([0, 1])).2 != 0)) || ((mostA ownL).2 != 0)) || (!((listA ownL bothL).1.lo == (rangeF (-1) 2).lo && (listA ownL bothL).1.hi == (rangeF (-1) 2).hi))) || ((levelA strictL ([(placeL 0 0)])).1 != 1)) || ((tiltsA ownL ([(placeL 0 0), (placeL 1 0)])).1 != 1)) == false)) then [(placeL 1 0), (placeL 0 2)] else [])))) || (!(alikeF (mostA ownL).1 (bif (true && (((((((((((listA ownL bothL).2 != 0) || ((levelA strictL ([(placeL 0 0)])).2 != 0)) || ((tiltsA ownL ([(placeL 0 0), (placeL 1 0)])).2 != 0)) || ((stowA strictL ([0, 1])).2 != 0)) || ((mostA ownL).2 != 0)) || (!((listA ownL bothL).1.lo == (rangeF (-1) 2).lo && (listA ownL bothL).1.hi == (rangeF (-1) 2).hi))) || ((levelA strictL ([(placeL 0 0)])).1 != 1)) || ((tiltsA ownL ([(placeL 0 0), (placeL 1 0)])).1 != 1)) || (!(sameL (stowA strictL ([0, 1])).1 (bif (true && ((((((((((listA ownL bothL).2 != 0) || ((levelA strictL ([(placeL 0 0)])).2 != 0)) || ((tiltsA ownL ([(placeL 0 0), (placeL 1 0)])).2 != 0)) || ((stowA strictL ([0, 1])).2 != 0)) || ((mostA ownL).2 != 0)) || (!((listA ownL bothL).1.lo == (rangeF (-1) 2).lo && (listA ownL bothL).1.hi == (rangeF (-1) 2).hi))) || ((levelA strictL ([(placeL 0 0)])).1 != 1)) || ((tiltsA ownL ([(placeL 0 0), (placeL 1 0)])).1 != 1)) == false)) then [(placeL 1 0), (placeL 0 2)] else [])))) == false)) then [0, 1, 2] else []))) then false else ((((((fewestA lightL).2 == 0) && ((neverA wideL).2 == 0)) && ((weighA ownL).2 == 0)) && (alikeF (fewestA lightL).1 (bif (true && (((((fewestA lightL).2 == 0) && ((neverA wideL).2 == 0)) && ((weighA ownL).2 == 0)) == true)) then [0, 0, 1, 1] else []))) && (alikeF (neverA wideL).1 (bif (true && ((((((fewestA lightL).2 == 0) && ((neverA wideL).2 == 0)) && ((weighA ownL).2 == 0)) && (alikeF (fewestA lightL).1 (bif (true && (((((fewestA lightL).2 == 0) && ((neverA wideL).2 == 0)) && ((weighA ownL).2 == 0)) == true)) then [0, 0, 1, 1] else []))) == true)) then [4] else []))) && ((weighA ownL).1 == 0))
theorem stowedL_calls   (w : World)  (hnb : NobodyAt w) (hla : LanesAt w) : Calls Tryd.prog 21 #[] w fun e w' => e = .returned (.bool stowedL) ∧ Below w.heap.size w w' := by
  refine calls_of_WP (cx := cx0 w Eng.n0 0) (n := Eng.n0) (vs := []) (hp := [(0, .pf NobodyAt (· = 1)), (1, .pf LanesAt (· = 0))]) (nx := 2) tt_ok Tryd.func21 rfl rfl rfl (by kernel_rfl) (HSat_args (fun _ => rfl) (by decide) ⟨⟨⟨hnb, fun w1 w2 h1 hw => (hw 1 rfl).trans h1, fun g hg => by cases hg; exact (Array.getElem?_eq_some_iff.1 hnb).1⟩, (Nat.le_of_ble_eq_true rfl)⟩, ⟨⟨hla, fun w1 w2 h1 hw => (hw 0 rfl).trans h1, fun g hg => by cases hg; exact (Array.getElem?_eq_some_iff.1 hla).1⟩, (Nat.le_of_ble_eq_true rfl)⟩, trivial⟩) (vsOk (by kernel_rfl)) ?_
  refine WP_seq (WP_region (WPO_all tt_ok (by kernel_rfl) ?_))
  refine WP_seq (WP_region (CALLO 63 [] (.g [.ref 2, .int .i64 ownL.rule, .int .i64 ownL.most]) 61 3 ownL.loads encLoad zLoad 2 (by kernel_rfl) (by kernel_rfl) (goes_of (by kernel_rfl)) (by kernel_rfl) (by kernel_rfl) (fun _ => rfl) ((fun nV w h => ownL_calls   w  )) ?_))
  refine CALLO 68 [] (.s (.ref 3)) 65 2 bothL encPlace zPlace 3 (by kernel_rfl) (by kernel_rfl) (goes_of (by kernel_rfl)) (by kernel_rfl) (by kernel_rfl) (fun _ => rfl) ((fun nV w h => bothL_calls   w  )) ?_
  refine CALL 30 [.g [.ref 2, .int .i64 ownL.rule, .int .i64 ownL.most], .s (.ref 3)] (.t [(true, [.int .i64 (listA ownL bothL).1.lo, .int .i64 (listA ownL bothL).1.hi]), (false, [.int .i64 (listA ownL bothL).2])]) [] (by kernel_rfl) (goes_of (by kernel_rfl)) (by kernel_rfl) (by kernel_rfl) (fun _ nV w h => listA_calls (nV 2) (nV 3) ownL bothL w (h.reads (id := 2) (kd := .own) (e := 61) (by kernel_rfl)) (h.reads (id := 3) (kd := .own) (e := 65) (by kernel_rfl)) (h.ents (0, .pf NobodyAt (· = 1)) (fnd_mem (by kernel_rfl))).1 (h.ents (1, .pf LanesAt (· = 0)) (fnd_mem (by kernel_rfl))).1 ) ?_
  refine WPO_all tt_ok (by kernel_rfl) ?_
  refine WP_seq (WP_region (CALLO 67 [] (.g [.ref 5, .int .i64 strictL.rule, .int .i64 strictL.most]) 61 3 strictL.loads encLoad zLoad 5 (by kernel_rfl) (by kernel_rfl) (goes_of (by kernel_rfl)) (by kernel_rfl) (by kernel_rfl) (fun _ => rfl) ((fun nV w h => strictL_calls   w  )) ?_))
  refine CALL 44 [.s (.int .i64 0), .s (.int .i64 0)] (.g [.int .i64 (placeL 0 0).load, .int .i64 (placeL 0 0).lane]) [] (by kernel_rfl) (goes_of (by kernel_rfl)) (by kernel_rfl) (by kernel_rfl) (fun _ nV w h => placeL_calls  0 0 w  ) ?_
  refine LIT tt_ok (by kernel_rfl) ?_
  refine LITSL 6 65 1 2 [.int .i64 (placeL 0 0).load, .int .i64 (placeL 0 0).lane] [(placeL 0 0)] encPlace zPlace (by kernel_rfl) rfl (fun _ => rfl) (fun n => rfl) ?_
  refine CALL 31 [.g [.ref 5, .int .i64 strictL.rule, .int .i64 strictL.most], .s (.ref 6)] (.t [(false, [.int .i64 (levelA strictL ([(placeL 0 0)])).1]), (false, [.int .i64 (levelA strictL ([(placeL 0 0)])).2])]) [] (by kernel_rfl) (goes_of (by kernel_rfl)) (by kernel_rfl) (by kernel_rfl) (fun _ nV w h => levelA_calls (nV 5) (nV 6) strictL ([(placeL 0 0)]) w (h.reads (id := 5) (kd := .own) (e := 61) (by kernel_rfl)) (h.reads (id := 6) (kd := .own) (e := 65) (by kernel_rfl)) (h.ents (0, .pf NobodyAt (· = 1)) (fnd_mem (by kernel_rfl))).1 (h.ents (1, .pf LanesAt (· = 0)) (fnd_mem (by kernel_rfl))).1 ) ?_
  refine WPO_all tt_ok (by kernel_rfl) ?_
  refine WP_seq (WP_region (CALLO 63 [] (.g [.ref 7, .int .i64 ownL.rule, .int .i64 ownL.most]) 61 3 ownL.loads encLoad zLoad 7 (by kernel_rfl) (by kernel_rfl) (goes_of (by kernel_rfl)) (by kernel_rfl) (by kernel_rfl) (fun _ => rfl) ((fun nV w h => ownL_calls   w  )) ?_))
  refine CALL 44 [.s (.int .i64 0), .s (.int .i64 0)] (.g [.int .i64 (placeL 0 0).load, .int .i64 (placeL 0 0).lane]) [] (by kernel_rfl) (goes_of (by kernel_rfl)) (by kernel_rfl) (by kernel_rfl) (fun _ nV w h => placeL_calls  0 0 w  ) ?_
  refine CALL 44 [.s (.int .i64 1), .s (.int .i64 0)] (.g [.int .i64 (placeL 1 0).load, .int .i64 (placeL 1 0).lane]) [] (by kernel_rfl) (goes_of (by kernel_rfl)) (by kernel_rfl) (by kernel_rfl) (fun _ nV w h => placeL_calls  1 0 w  ) ?_
  refine LIT tt_ok (by kernel_rfl) ?_
  refine LITSL 8 65 2 2 [.int .i64 (placeL 0 0).load, .int .i64 (placeL 0 0).lane, .int .i64 (placeL 1 0).load, .int .i64 (placeL 1 0).lane] [(placeL 0 0), (placeL 1 0)] encPlace zPlace (by kernel_rfl) rfl (fun _ => rfl) (fun n => rfl) ?_
  refine CALL 32 [.g [.ref 7, .int .i64 ownL.rule, .int .i64 ownL.most], .s (.ref 8)] (.t [(false, [.int .i64 (tiltsA ownL ([(placeL 0 0), (placeL 1 0)])).1]), (false, [.int .i64 (tiltsA ownL ([(placeL 0 0), (placeL 1 0)])).2])]) [] (by kernel_rfl) (goes_of (by kernel_rfl)) (by kernel_rfl) (by kernel_rfl) (fun _ nV w h => tiltsA_calls (nV 7) (nV 8) ownL ([(placeL 0 0), (placeL 1 0)]) w (h.reads (id := 7) (kd := .own) (e := 61) (by kernel_rfl)) (h.reads (id := 8) (kd := .own) (e := 65) (by kernel_rfl)) (h.ents (0, .pf NobodyAt (· = 1)) (fnd_mem (by kernel_rfl))).1 (h.ents (1, .pf LanesAt (· = 0)) (fnd_mem (by kernel_rfl))).1 ) ?_
  refine WPO_all tt_ok (by kernel_rfl) ?_
  refine WP_seq (WP_region (CALLO 67 [] (.g [.ref 9, .int .i64 strictL.rule, .int .i64 strictL.most]) 61 3 strictL.loads encLoad zLoad 9 (by kernel_rfl) (by kernel_rfl) (goes_of (by kernel_rfl)) (by kernel_rfl) (by kernel_rfl) (fun _ => rfl) ((fun nV w h => strictL_calls   w  )) ?_))
  refine LIT tt_ok (by kernel_rfl) ?_
  refine LITSL 10 3 2 1 [.int .i64 0, .int .i64 1] [0, 1] encI 0 (by kernel_rfl) rfl (fun _ => rfl) (fun n => rfl) ?_
  refine CALLR 36 [.g [.ref 9, .int .i64 strictL.rule, .int .i64 strictL.most], .s (.ref 10)] (.t [(false, [.ref 11]), (false, [.int .i64 (stowA strictL ([0, 1])).2])]) 65 2 (stowA strictL ([0, 1])).1 encPlace zPlace 11 (by kernel_rfl) (by kernel_rfl) (goes_of (by kernel_rfl)) (by kernel_rfl) (by kernel_rfl) (by decide) (fun _ => rfl) (fun nV w h => (stowA_calls (nV 9) (nV 10) strictL ([0, 1]) w (h.reads (id := 9) (kd := .own) (e := 61) (by kernel_rfl)) (h.reads (id := 10) (kd := .own) (e := 3) (by kernel_rfl)) (h.ents (0, .pf NobodyAt (· = 1)) (fnd_mem (by kernel_rfl))).1 (h.ents (1, .pf LanesAt (· = 0)) (fnd_mem (by kernel_rfl))).1 ).mono fun e w' h1 => weak_fresh h1) ?_
  refine WPO_all tt_ok (by kernel_rfl) ?_
  refine WP_seq (WP_region (CALLO 63 [] (.g [.ref 12, .int .i64 ownL.rule, .int .i64 ownL.most]) 61 3 ownL.loads encLoad zLoad 12 (by kernel_rfl) (by kernel_rfl) (goes_of (by kernel_rfl)) (by kernel_rfl) (by kernel_rfl) (fun _ => rfl) ((fun nV w h => ownL_calls   w  )) ?_))
  refine CALLR 45 [.g [.ref 12, .int .i64 ownL.rule, .int .i64 ownL.most]] (.t [(false, [.ref 13]), (false, [.int .i64 (mostA ownL).2])]) 3 1 (mostA ownL).1 encI 0 13 (by kernel_rfl) (by kernel_rfl) (goes_of (by kernel_rfl)) (by kernel_rfl) (by kernel_rfl) (by decide) (fun _ => rfl) (fun nV w h => (mostA_calls (nV 12) ownL w (h.reads (id := 12) (kd := .own) (e := 61) (by kernel_rfl)) (h.ents (0, .pf NobodyAt (· = 1)) (fnd_mem (by kernel_rfl))).1 (h.ents (1, .pf LanesAt (· = 0)) (fnd_mem (by kernel_rfl))).1 ).mono fun e w' h1 => weak_fresh h1) ?_
  refine WPO_all tt_ok (by kernel_rfl) ?_
  refine WP_seq (WP_seq (WP_drawH [] (by kernel_rfl) (by kernel_rfl) ?_))
  refine H_run tt_ok [0, 1, 2, 3, 4, 5, 6, 7, 8, 9, 10, 11, 12, 13, 14, 15, 16, 17, 18, 19] (f' := 25) (by kernel_rfl) (by kernel_rfl) (by kernel_rfl) ?_
  refine H_step 20 (by kernel_rfl) (by kernel_rfl) (fun hfz cx' hx1 hx2 => ?_)
  refine CALL 40 [.s (.int .i64 (-1)), .s (.int .i64 2)] (.g [.int .i64 (rangeF (-1) 2).lo, .int .i64 (rangeF (-1) 2).hi]) [((((((listA ownL bothL).2 != 0) || ((levelA strictL ([(placeL 0 0)])).2 != 0)) || ((tiltsA ownL ([(placeL 0 0), (placeL 1 0)])).2 != 0)) || ((stowA strictL ([0, 1])).2 != 0)) || ((mostA ownL).2 != 0), false)] (by kernel_rfl) (goes_of (by kernel_rfl)) (by kernel_rfl) (by kernel_rfl) (fun _ nV w h => rangeF_calls  (-1) 2 w  ) ?_
  refine WPO_end (by kernel_rfl) ⟨rfl, (hfz.fnds [13, 12, 11, 10, 9, 8, 7, 6, 5, 4, 3, 2, 0, 1] (by kernel_rfl) ⟨by kernel_rfl, by kernel_rfl, by kernel_rfl, by kernel_rfl, by kernel_rfl, by kernel_rfl, by kernel_rfl, by kernel_rfl, by kernel_rfl, by kernel_rfl, by kernel_rfl, by kernel_rfl, by kernel_rfl, by kernel_rfl, trivial⟩ (by kernel_rfl)), ?_⟩
  refine H_BIN 21 .neq 43 (.tmp 65) (.tmp 66) (.g [.int .i64 (listA ownL bothL).1.lo, .int .i64 (listA ownL bothL).1.hi]) (.g [.int .i64 (rangeF (-1) 2).lo, .int .i64 (rangeF (-1) 2).hi]) (.s (.bool (!((listA ownL bothL).1.lo == (rangeF (-1) 2).lo && (listA ownL bothL).1.hi == (rangeF (-1) 2).hi)))) [((((((listA ownL bothL).2 != 0) || ((levelA strictL ([(placeL 0 0)])).2 != 0)) || ((tiltsA ownL ([(placeL 0 0), (placeL 1 0)])).2 != 0)) || ((stowA strictL ([0, 1])).2 != 0)) || ((mostA ownL).2 != 0), false)] (by kernel_rfl) (by kernel_rfl) (by kernel_rfl) (fun _ _ => BinOk_pairN (by kernel_rfl) _ _ _ _) (by kernel_rfl) (by kernel_rfl) ?_
  refine H_run tt_ok [22, 23, 24, 25, 26, 27, 28, 29, 30, 31, 32] (f' := 12) (by kernel_rfl) (by kernel_rfl) (by kernel_rfl) ?_
  refine H_step 33 (by kernel_rfl) (by kernel_rfl) (fun hfz cx' hx1 hx2 => ?_)
  refine CALL 44 [.s (.int .i64 1), .s (.int .i64 0)] (.g [.int .i64 (placeL 1 0).load, .int .i64 (placeL 1 0).lane]) [(((((((((listA ownL bothL).2 != 0) || ((levelA strictL ([(placeL 0 0)])).2 != 0)) || ((tiltsA ownL ([(placeL 0 0), (placeL 1 0)])).2 != 0)) || ((stowA strictL ([0, 1])).2 != 0)) || ((mostA ownL).2 != 0)) || (!((listA ownL bothL).1.lo == (rangeF (-1) 2).lo && (listA ownL bothL).1.hi == (rangeF (-1) 2).hi))) || ((levelA strictL ([(placeL 0 0)])).1 != 1)) || ((tiltsA ownL ([(placeL 0 0), (placeL 1 0)])).1 != 1), false)] (by kernel_rfl) (goes_of (by kernel_rfl)) (by kernel_rfl) (by kernel_rfl) (fun _ nV w h => placeL_calls  1 0 w  ) ?_
  refine WPO_end (by kernel_rfl) ⟨rfl, (hfz.fnds [13, 12, 11, 10, 9, 8, 7, 6, 5, 4, 3, 2, 0, 1] (by kernel_rfl) ⟨by kernel_rfl, by kernel_rfl, by kernel_rfl, by kernel_rfl, by kernel_rfl, by kernel_rfl, by kernel_rfl, by kernel_rfl, by kernel_rfl, by kernel_rfl, by kernel_rfl, by kernel_rfl, by kernel_rfl, by kernel_rfl, trivial⟩ (by kernel_rfl)), ?_⟩
  refine H_step 34 (by kernel_rfl) (by kernel_rfl) (fun hfz cx' hx1 hx2 => ?_)
  refine CALL 44 [.s (.int .i64 0), .s (.int .i64 2)] (.g [.int .i64 (placeL 0 2).load, .int .i64 (placeL 0 2).lane]) [(((((((((listA ownL bothL).2 != 0) || ((levelA strictL ([(placeL 0 0)])).2 != 0)) || ((tiltsA ownL ([(placeL 0 0), (placeL 1 0)])).2 != 0)) || ((stowA strictL ([0, 1])).2 != 0)) || ((mostA ownL).2 != 0)) || (!((listA ownL bothL).1.lo == (rangeF (-1) 2).lo && (listA ownL bothL).1.hi == (rangeF (-1) 2).hi))) || ((levelA strictL ([(placeL 0 0)])).1 != 1)) || ((tiltsA ownL ([(placeL 0 0), (placeL 1 0)])).1 != 1), false)] (by kernel_rfl) (goes_of (by kernel_rfl)) (by kernel_rfl) (by kernel_rfl) (fun _ nV w h => placeL_calls  0 2 w  ) ?_
  refine WPO_end (by kernel_rfl) ⟨rfl, (hfz.fnds [13, 12, 11, 10, 9, 8, 7, 6, 5, 4, 3, 2, 0, 1] (by kernel_rfl) ⟨by kernel_rfl, by kernel_rfl, by kernel_rfl, by kernel_rfl, by kernel_rfl, by kernel_rfl, by kernel_rfl, by kernel_rfl, by kernel_rfl, by kernel_rfl, by kernel_rfl, by kernel_rfl, by kernel_rfl, by kernel_rfl, trivial⟩ (by kernel_rfl)), ?_⟩
  refine H_step 35 (by kernel_rfl) (by kernel_rfl) (fun hfz cx' hx1 hx2 => ?_)
  refine LITG tt_ok [(77, false)] (true && ((((((((((listA ownL bothL).2 != 0) || ((levelA strictL ([(placeL 0 0)])).2 != 0)) || ((tiltsA ownL ([(placeL 0 0), (placeL 1 0)])).2 != 0)) || ((stowA strictL ([0, 1])).2 != 0)) || ((mostA ownL).2 != 0)) || (!((listA ownL bothL).1.lo == (rangeF (-1) 2).lo && (listA ownL bothL).1.hi == (rangeF (-1) 2).hi))) || ((levelA strictL ([(placeL 0 0)])).1 != 1)) || ((tiltsA ownL ([(placeL 0 0), (placeL 1 0)])).1 != 1)) == false)) 65 2 2 [.int .i64 (placeL 1 0).load, .int .i64 (placeL 1 0).lane, .int .i64 (placeL 0 2).load, .int .i64 (placeL 0 2).lane] [(placeL 1 0), (placeL 0 2)] encPlace zPlace (by kernel_rfl) (by kernel_rfl) rfl (fun _ => rfl) (fun n => rfl) (by kernel_rfl) ?_
  refine WPO_end (by kernel_rfl) ⟨rfl, (hfz.fnds [13, 12, 11, 10, 9, 8, 7, 6, 5, 4, 3, 2, 0, 1] (by kernel_rfl) ⟨by kernel_rfl, by kernel_rfl, by kernel_rfl, by kernel_rfl, by kernel_rfl, by kernel_rfl, by kernel_rfl, by kernel_rfl, by kernel_rfl, by kernel_rfl, by kernel_rfl, by kernel_rfl, by kernel_rfl, by kernel_rfl, trivial⟩ (by kernel_rfl)), ?_⟩
  refine H_step 36 (by kernel_rfl) (by kernel_rfl) (fun hfz cx' hx1 hx2 => ?_)
  refine CALL 70 [.s (.ref 11), .s (.ref 14)] (.s (.bool (sameL (stowA strictL ([0, 1])).1 (bif (true && ((((((((((listA ownL bothL).2 != 0) || ((levelA strictL ([(placeL 0 0)])).2 != 0)) || ((tiltsA ownL ([(placeL 0 0), (placeL 1 0)])).2 != 0)) || ((stowA strictL ([0, 1])).2 != 0)) || ((mostA ownL).2 != 0)) || (!((listA ownL bothL).1.lo == (rangeF (-1) 2).lo && (listA ownL bothL).1.hi == (rangeF (-1) 2).hi))) || ((levelA strictL ([(placeL 0 0)])).1 != 1)) || ((tiltsA ownL ([(placeL 0 0), (placeL 1 0)])).1 != 1)) == false)) then [(placeL 1 0), (placeL 0 2)] else [])))) [(((((((((listA ownL bothL).2 != 0) || ((levelA strictL ([(placeL 0 0)])).2 != 0)) || ((tiltsA ownL ([(placeL 0 0), (placeL 1 0)])).2 != 0)) || ((stowA strictL ([0, 1])).2 != 0)) || ((mostA ownL).2 != 0)) || (!((listA ownL bothL).1.lo == (rangeF (-1) 2).lo && (listA ownL bothL).1.hi == (rangeF (-1) 2).hi))) || ((levelA strictL ([(placeL 0 0)])).1 != 1)) || ((tiltsA ownL ([(placeL 0 0), (placeL 1 0)])).1 != 1), false)] (by kernel_rfl) (goes_of (by kernel_rfl)) (by kernel_rfl) (by kernel_rfl) (fun _ nV w h => sameL_calls (nV 11) (nV 14) (stowA strictL ([0, 1])).1 (bif (true && ((((((((((listA ownL bothL).2 != 0) || ((levelA strictL ([(placeL 0 0)])).2 != 0)) || ((tiltsA ownL ([(placeL 0 0), (placeL 1 0)])).2 != 0)) || ((stowA strictL ([0, 1])).2 != 0)) || ((mostA ownL).2 != 0)) || (!((listA ownL bothL).1.lo == (rangeF (-1) 2).lo && (listA ownL bothL).1.hi == (rangeF (-1) 2).hi))) || ((levelA strictL ([(placeL 0 0)])).1 != 1)) || ((tiltsA ownL ([(placeL 0 0), (placeL 1 0)])).1 != 1)) == false)) then [(placeL 1 0), (placeL 0 2)] else []) w (h.reads (id := 11) (kd := .ro) (e := 65) (by kernel_rfl)) (h.reads (id := 14) (kd := .own) (e := 65) (by kernel_rfl)) ) ?_
  refine WPO_end (by kernel_rfl) ⟨rfl, (hfz.fnds [13, 12, 11, 10, 9, 8, 7, 6, 5, 4, 3, 2, 0, 1] (by kernel_rfl) ⟨by kernel_rfl, by kernel_rfl, by kernel_rfl, by kernel_rfl, by kernel_rfl, by kernel_rfl, by kernel_rfl, by kernel_rfl, by kernel_rfl, by kernel_rfl, by kernel_rfl, by kernel_rfl, by kernel_rfl, by kernel_rfl, trivial⟩ (by kernel_rfl)), ?_⟩
  refine H_run tt_ok [37, 38, 39, 40] (f' := 4) (by kernel_rfl) (by kernel_rfl) (by kernel_rfl) ?_
  refine H_step 41 (by kernel_rfl) (by kernel_rfl) (fun hfz cx' hx1 hx2 => ?_)
  refine LITG tt_ok [(85, false)] (true && (((((((((((listA ownL bothL).2 != 0) || ((levelA strictL ([(placeL 0 0)])).2 != 0)) || ((tiltsA ownL ([(placeL 0 0), (placeL 1 0)])).2 != 0)) || ((stowA strictL ([0, 1])).2 != 0)) || ((mostA ownL).2 != 0)) || (!((listA ownL bothL).1.lo == (rangeF (-1) 2).lo && (listA ownL bothL).1.hi == (rangeF (-1) 2).hi))) || ((levelA strictL ([(placeL 0 0)])).1 != 1)) || ((tiltsA ownL ([(placeL 0 0), (placeL 1 0)])).1 != 1)) || (!(sameL (stowA strictL ([0, 1])).1 (bif (true && ((((((((((listA ownL bothL).2 != 0) || ((levelA strictL ([(placeL 0 0)])).2 != 0)) || ((tiltsA ownL ([(placeL 0 0), (placeL 1 0)])).2 != 0)) || ((stowA strictL ([0, 1])).2 != 0)) || ((mostA ownL).2 != 0)) || (!((listA ownL bothL).1.lo == (rangeF (-1) 2).lo && (listA ownL bothL).1.hi == (rangeF (-1) 2).hi))) || ((levelA strictL ([(placeL 0 0)])).1 != 1)) || ((tiltsA ownL ([(placeL 0 0), (placeL 1 0)])).1 != 1)) == false)) then [(placeL 1 0), (placeL 0 2)] else [])))) == false)) 3 3 1 [.int .i64 0, .int .i64 1, .int .i64 2] [0, 1, 2] encI 0 (by kernel_rfl) (by kernel_rfl) rfl (fun _ => rfl) (fun n => rfl) (by kernel_rfl) ?_
  refine WPO_end (by kernel_rfl) ⟨rfl, (hfz.fnds [13, 12, 11, 10, 9, 8, 7, 6, 5, 4, 3, 2, 0, 1] (by kernel_rfl) ⟨by kernel_rfl, by kernel_rfl, by kernel_rfl, by kernel_rfl, by kernel_rfl, by kernel_rfl, by kernel_rfl, by kernel_rfl, by kernel_rfl, by kernel_rfl, by kernel_rfl, by kernel_rfl, by kernel_rfl, by kernel_rfl, trivial⟩ (by kernel_rfl)), ?_⟩
  refine H_step 42 (by kernel_rfl) (by kernel_rfl) (fun hfz cx' hx1 hx2 => ?_)
  refine CALL 24 [.s (.ref 13), .s (.ref 15)] (.s (.bool (alikeF (mostA ownL).1 (bif (true && (((((((((((listA ownL bothL).2 != 0) || ((levelA strictL ([(placeL 0 0)])).2 != 0)) || ((tiltsA ownL ([(placeL 0 0), (placeL 1 0)])).2 != 0)) || ((stowA strictL ([0, 1])).2 != 0)) || ((mostA ownL).2 != 0)) || (!((listA ownL bothL).1.lo == (rangeF (-1) 2).lo && (listA ownL bothL).1.hi == (rangeF (-1) 2).hi))) || ((levelA strictL ([(placeL 0 0)])).1 != 1)) || ((tiltsA ownL ([(placeL 0 0), (placeL 1 0)])).1 != 1)) || (!(sameL (stowA strictL ([0, 1])).1 (bif (true && ((((((((((listA ownL bothL).2 != 0) || ((levelA strictL ([(placeL 0 0)])).2 != 0)) || ((tiltsA ownL ([(placeL 0 0), (placeL 1 0)])).2 != 0)) || ((stowA strictL ([0, 1])).2 != 0)) || ((mostA ownL).2 != 0)) || (!((listA ownL bothL).1.lo == (rangeF (-1) 2).lo && (listA ownL bothL).1.hi == (rangeF (-1) 2).hi))) || ((levelA strictL ([(placeL 0 0)])).1 != 1)) || ((tiltsA ownL ([(placeL 0 0), (placeL 1 0)])).1 != 1)) == false)) then [(placeL 1 0), (placeL 0 2)] else [])))) == false)) then [0, 1, 2] else [])))) [((((((((((listA ownL bothL).2 != 0) || ((levelA strictL ([(placeL 0 0)])).2 != 0)) || ((tiltsA ownL ([(placeL 0 0), (placeL 1 0)])).2 != 0)) || ((stowA strictL ([0, 1])).2 != 0)) || ((mostA ownL).2 != 0)) || (!((listA ownL bothL).1.lo == (rangeF (-1) 2).lo && (listA ownL bothL).1.hi == (rangeF (-1) 2).hi))) || ((levelA strictL ([(placeL 0 0)])).1 != 1)) || ((tiltsA ownL ([(placeL 0 0), (placeL 1 0)])).1 != 1)) || (!(sameL (stowA strictL ([0, 1])).1 (bif (true && ((((((((((listA ownL bothL).2 != 0) || ((levelA strictL ([(placeL 0 0)])).2 != 0)) || ((tiltsA ownL ([(placeL 0 0), (placeL 1 0)])).2 != 0)) || ((stowA strictL ([0, 1])).2 != 0)) || ((mostA ownL).2 != 0)) || (!((listA ownL bothL).1.lo == (rangeF (-1) 2).lo && (listA ownL bothL).1.hi == (rangeF (-1) 2).hi))) || ((levelA strictL ([(placeL 0 0)])).1 != 1)) || ((tiltsA ownL ([(placeL 0 0), (placeL 1 0)])).1 != 1)) == false)) then [(placeL 1 0), (placeL 0 2)] else []))), false)] (by kernel_rfl) (goes_of (by kernel_rfl)) (by kernel_rfl) (by kernel_rfl) (fun _ nV w h => alikeF_calls (nV 13) (nV 15) (mostA ownL).1 (bif (true && (((((((((((listA ownL bothL).2 != 0) || ((levelA strictL ([(placeL 0 0)])).2 != 0)) || ((tiltsA ownL ([(placeL 0 0), (placeL 1 0)])).2 != 0)) || ((stowA strictL ([0, 1])).2 != 0)) || ((mostA ownL).2 != 0)) || (!((listA ownL bothL).1.lo == (rangeF (-1) 2).lo && (listA ownL bothL).1.hi == (rangeF (-1) 2).hi))) || ((levelA strictL ([(placeL 0 0)])).1 != 1)) || ((tiltsA ownL ([(placeL 0 0), (placeL 1 0)])).1 != 1)) || (!(sameL (stowA strictL ([0, 1])).1 (bif (true && ((((((((((listA ownL bothL).2 != 0) || ((levelA strictL ([(placeL 0 0)])).2 != 0)) || ((tiltsA ownL ([(placeL 0 0), (placeL 1 0)])).2 != 0)) || ((stowA strictL ([0, 1])).2 != 0)) || ((mostA ownL).2 != 0)) || (!((listA ownL bothL).1.lo == (rangeF (-1) 2).lo && (listA ownL bothL).1.hi == (rangeF (-1) 2).hi))) || ((levelA strictL ([(placeL 0 0)])).1 != 1)) || ((tiltsA ownL ([(placeL 0 0), (placeL 1 0)])).1 != 1)) == false)) then [(placeL 1 0), (placeL 0 2)] else [])))) == false)) then [0, 1, 2] else []) w (h.reads (id := 13) (kd := .ro) (e := 3) (by kernel_rfl)) (h.reads (id := 15) (kd := .own) (e := 3) (by kernel_rfl)) ) ?_
  refine WPO_end (by kernel_rfl) ⟨rfl, (hfz.fnds [13, 12, 11, 10, 9, 8, 7, 6, 5, 4, 3, 2, 0, 1] (by kernel_rfl) ⟨by kernel_rfl, by kernel_rfl, by kernel_rfl, by kernel_rfl, by kernel_rfl, by kernel_rfl, by kernel_rfl, by kernel_rfl, by kernel_rfl, by kernel_rfl, by kernel_rfl, by kernel_rfl, by kernel_rfl, by kernel_rfl, trivial⟩ (by kernel_rfl)), ?_⟩
  refine H_run tt_ok [43, 44] (f' := 0) (by kernel_rfl) (by kernel_rfl) (by kernel_rfl) ?_
  refine H_done (by kernel_rfl) ?_
  refine WP_cond (((((((((((listA ownL bothL).2 != 0) || ((levelA strictL ([(placeL 0 0)])).2 != 0)) || ((tiltsA ownL ([(placeL 0 0), (placeL 1 0)])).2 != 0)) || ((stowA strictL ([0, 1])).2 != 0)) || ((mostA ownL).2 != 0)) || (!((listA ownL bothL).1.lo == (rangeF (-1) 2).lo && (listA ownL bothL).1.hi == (rangeF (-1) 2).hi))) || ((levelA strictL ([(placeL 0 0)])).1 != 1)) || ((tiltsA ownL ([(placeL 0 0), (placeL 1 0)])).1 != 1)) || (!(sameL (stowA strictL ([0, 1])).1 (bif (true && ((((((((((listA ownL bothL).2 != 0) || ((levelA strictL ([(placeL 0 0)])).2 != 0)) || ((tiltsA ownL ([(placeL 0 0), (placeL 1 0)])).2 != 0)) || ((stowA strictL ([0, 1])).2 != 0)) || ((mostA ownL).2 != 0)) || (!((listA ownL bothL).1.lo == (rangeF (-1) 2).lo && (listA ownL bothL).1.hi == (rangeF (-1) 2).hi))) || ((levelA strictL ([(placeL 0 0)])).1 != 1)) || ((tiltsA ownL ([(placeL 0 0), (placeL 1 0)])).1 != 1)) == false)) then [(placeL 1 0), (placeL 0 2)] else [])))) || (!(alikeF (mostA ownL).1 (bif (true && (((((((((((listA ownL bothL).2 != 0) || ((levelA strictL ([(placeL 0 0)])).2 != 0)) || ((tiltsA ownL ([(placeL 0 0), (placeL 1 0)])).2 != 0)) || ((stowA strictL ([0, 1])).2 != 0)) || ((mostA ownL).2 != 0)) || (!((listA ownL bothL).1.lo == (rangeF (-1) 2).lo && (listA ownL bothL).1.hi == (rangeF (-1) 2).hi))) || ((levelA strictL ([(placeL 0 0)])).1 != 1)) || ((tiltsA ownL ([(placeL 0 0), (placeL 1 0)])).1 != 1)) || (!(sameL (stowA strictL ([0, 1])).1 (bif (true && ((((((((((listA ownL bothL).2 != 0) || ((levelA strictL ([(placeL 0 0)])).2 != 0)) || ((tiltsA ownL ([(placeL 0 0), (placeL 1 0)])).2 != 0)) || ((stowA strictL ([0, 1])).2 != 0)) || ((mostA ownL).2 != 0)) || (!((listA ownL bothL).1.lo == (rangeF (-1) 2).lo && (listA ownL bothL).1.hi == (rangeF (-1) 2).hi))) || ((levelA strictL ([(placeL 0 0)])).1 != 1)) || ((tiltsA ownL ([(placeL 0 0), (placeL 1 0)])).1 != 1)) == false)) then [(placeL 1 0), (placeL 0 2)] else [])))) == false)) then [0, 1, 2] else [])))) (by kernel_rfl) (fun hc2 => ?_) (fun hc2 => ?_)
  · have hc2' := hc2; try simp only [Bool.and_eq_true, Bool.or_eq_true, Bool.and_eq_false_iff, Bool.or_eq_false_iff, Bool.not_eq_true', Bool.not_eq_false', decide_eq_true_eq, decide_eq_false_iff_not, beq_iff_eq, beq_eq_false_iff_ne, bne_iff_ne, bne_eq_false_iff_eq, ne_eq] at hc2'
    refine WP_seq (WP_region (WPO_all tt_ok (by kernel_rfl) ?_))
    refine WP_ret ?_
    exact ⟨.s (.bool false), by kernel_rfl, fun nV w' h => ⟨by rw [show stowedL = false from by unfold stowedL; simp only [hc2, cond_true, cond_false]]; rfl, h.bel⟩⟩
  have hc2' := hc2; try simp only [Bool.and_eq_true, Bool.or_eq_true, Bool.and_eq_false_iff, Bool.or_eq_false_iff, Bool.not_eq_true', Bool.not_eq_false', decide_eq_true_eq, decide_eq_false_iff_not, beq_iff_eq, beq_eq_false_iff_ne, bne_iff_ne, bne_eq_false_iff_eq, ne_eq] at hc2'
  refine WP_skip ?_
  refine WP_seq (WP_region (CALLO 71 [] (.g [.ref 16, .int .i64 lightL.rule, .int .i64 lightL.most]) 61 3 lightL.loads encLoad zLoad 16 (by kernel_rfl) (by kernel_rfl) (goes_of (by kernel_rfl)) (by kernel_rfl) (by kernel_rfl) (fun _ => rfl) ((fun nV w h => lightL_calls   w  )) ?_))
  refine CALLR 46 [.g [.ref 16, .int .i64 lightL.rule, .int .i64 lightL.most]] (.t [(false, [.ref 17]), (false, [.int .i64 (fewestA lightL).2])]) 3 1 (fewestA lightL).1 encI 0 17 (by kernel_rfl) (by kernel_rfl) (goes_of (by kernel_rfl)) (by kernel_rfl) (by kernel_rfl) (by decide) (fun _ => rfl) (fun nV w h => (fewestA_calls (nV 16) lightL w (h.reads (id := 16) (kd := .own) (e := 61) (by kernel_rfl)) (h.ents (0, .pf NobodyAt (· = 1)) (fnd_mem (by kernel_rfl))).1 (h.ents (1, .pf LanesAt (· = 0)) (fnd_mem (by kernel_rfl))).1 ).mono fun e w' h1 => weak_fresh h1) ?_
  refine WPO_all tt_ok (by kernel_rfl) ?_
  refine WP_seq (WP_region (CALLO 69 [] (.g [.ref 18, .int .i64 wideL.rule, .int .i64 wideL.most]) 61 3 wideL.loads encLoad zLoad 18 (by kernel_rfl) (by kernel_rfl) (goes_of (by kernel_rfl)) (by kernel_rfl) (by kernel_rfl) (fun _ => rfl) ((fun nV w h => wideL_calls   w  )) ?_))
  refine CALLR 47 [.g [.ref 18, .int .i64 wideL.rule, .int .i64 wideL.most]] (.t [(false, [.ref 19]), (false, [.int .i64 (neverA wideL).2])]) 3 1 (neverA wideL).1 encI 0 19 (by kernel_rfl) (by kernel_rfl) (goes_of (by kernel_rfl)) (by kernel_rfl) (by kernel_rfl) (by decide) (fun _ => rfl) (fun nV w h => (neverA_calls (nV 18) wideL w (h.reads (id := 18) (kd := .own) (e := 61) (by kernel_rfl)) (h.ents (0, .pf NobodyAt (· = 1)) (fnd_mem (by kernel_rfl))).1 (h.ents (1, .pf LanesAt (· = 0)) (fnd_mem (by kernel_rfl))).1 ).mono fun e w' h1 => weak_fresh h1) ?_
  refine WPO_all tt_ok (by kernel_rfl) ?_
  refine WP_seq (WP_region (CALLO 63 [] (.g [.ref 20, .int .i64 ownL.rule, .int .i64 ownL.most]) 61 3 ownL.loads encLoad zLoad 20 (by kernel_rfl) (by kernel_rfl) (goes_of (by kernel_rfl)) (by kernel_rfl) (by kernel_rfl) (fun _ => rfl) ((fun nV w h => ownL_calls   w  )) ?_))
  refine CALL 48 [.g [.ref 20, .int .i64 ownL.rule, .int .i64 ownL.most]] (.t [(false, [.int .i64 (weighA ownL).1]), (false, [.int .i64 (weighA ownL).2])]) [] (by kernel_rfl) (goes_of (by kernel_rfl)) (by kernel_rfl) (by kernel_rfl) (fun _ nV w h => weighA_calls (nV 20) ownL w (h.reads (id := 20) (kd := .own) (e := 61) (by kernel_rfl)) (h.ents (0, .pf NobodyAt (· = 1)) (fnd_mem (by kernel_rfl))).1 (h.ents (1, .pf LanesAt (· = 0)) (fnd_mem (by kernel_rfl))).1 ) ?_
  refine WPO_all tt_ok (by kernel_rfl) ?_
  refine WP_seq (WP_region (WPO_run tt_ok 12 (by kernel_rfl) ?_))
  refine LITG tt_ok [(116, true)] (true && (((((fewestA lightL).2 == 0) && ((neverA wideL).2 == 0)) && ((weighA ownL).2 == 0)) == true)) 3 4 1 [.int .i64 0, .int .i64 0, .int .i64 1, .int .i64 1] [0, 0, 1, 1] encI 0 (by kernel_rfl) (by kernel_rfl) rfl (fun _ => rfl) (fun n => rfl) (by kernel_rfl) ?_
  refine CALL 24 [.s (.ref 17), .s (.ref 21)] (.s (.bool (alikeF (fewestA lightL).1 (bif (true && (((((fewestA lightL).2 == 0) && ((neverA wideL).2 == 0)) && ((weighA ownL).2 == 0)) == true)) then [0, 0, 1, 1] else [])))) [((((fewestA lightL).2 == 0) && ((neverA wideL).2 == 0)) && ((weighA ownL).2 == 0), true)] (by kernel_rfl) (goes_of (by kernel_rfl)) (by kernel_rfl) (by kernel_rfl) (fun _ nV w h => alikeF_calls (nV 17) (nV 21) (fewestA lightL).1 (bif (true && (((((fewestA lightL).2 == 0) && ((neverA wideL).2 == 0)) && ((weighA ownL).2 == 0)) == true)) then [0, 0, 1, 1] else []) w (h.reads (id := 17) (kd := .ro) (e := 3) (by kernel_rfl)) (h.reads (id := 21) (kd := .own) (e := 3) (by kernel_rfl)) ) ?_
  refine WPO_run tt_ok 3 (by kernel_rfl) ?_
  refine LITG tt_ok [(121, true)] (true && ((((((fewestA lightL).2 == 0) && ((neverA wideL).2 == 0)) && ((weighA ownL).2 == 0)) && (alikeF (fewestA lightL).1 (bif (true && (((((fewestA lightL).2 == 0) && ((neverA wideL).2 == 0)) && ((weighA ownL).2 == 0)) == true)) then [0, 0, 1, 1] else []))) == true)) 3 1 1 [.int .i64 4] [4] encI 0 (by kernel_rfl) (by kernel_rfl) rfl (fun _ => rfl) (fun n => rfl) (by kernel_rfl) ?_
  refine CALL 24 [.s (.ref 19), .s (.ref 22)] (.s (.bool (alikeF (neverA wideL).1 (bif (true && ((((((fewestA lightL).2 == 0) && ((neverA wideL).2 == 0)) && ((weighA ownL).2 == 0)) && (alikeF (fewestA lightL).1 (bif (true && (((((fewestA lightL).2 == 0) && ((neverA wideL).2 == 0)) && ((weighA ownL).2 == 0)) == true)) then [0, 0, 1, 1] else []))) == true)) then [4] else [])))) [(((((fewestA lightL).2 == 0) && ((neverA wideL).2 == 0)) && ((weighA ownL).2 == 0)) && (alikeF (fewestA lightL).1 (bif (true && (((((fewestA lightL).2 == 0) && ((neverA wideL).2 == 0)) && ((weighA ownL).2 == 0)) == true)) then [0, 0, 1, 1] else [])), true)] (by kernel_rfl) (goes_of (by kernel_rfl)) (by kernel_rfl) (by kernel_rfl) (fun _ nV w h => alikeF_calls (nV 19) (nV 22) (neverA wideL).1 (bif (true && ((((((fewestA lightL).2 == 0) && ((neverA wideL).2 == 0)) && ((weighA ownL).2 == 0)) && (alikeF (fewestA lightL).1 (bif (true && (((((fewestA lightL).2 == 0) && ((neverA wideL).2 == 0)) && ((weighA ownL).2 == 0)) == true)) then [0, 0, 1, 1] else []))) == true)) then [4] else []) w (h.reads (id := 19) (kd := .ro) (e := 3) (by kernel_rfl)) (h.reads (id := 22) (kd := .own) (e := 3) (by kernel_rfl)) ) ?_
  refine WPO_all tt_ok (by kernel_rfl) ?_
  refine WP_ret ?_
  exact ⟨.s (.bool (((((((fewestA lightL).2 == 0) && ((neverA wideL).2 == 0)) && ((weighA ownL).2 == 0)) && (alikeF (fewestA lightL).1 (bif (true && (((((fewestA lightL).2 == 0) && ((neverA wideL).2 == 0)) && ((weighA ownL).2 == 0)) == true)) then [0, 0, 1, 1] else []))) && (alikeF (neverA wideL).1 (bif (true && ((((((fewestA lightL).2 == 0) && ((neverA wideL).2 == 0)) && ((weighA ownL).2 == 0)) && (alikeF (fewestA lightL).1 (bif (true && (((((fewestA lightL).2 == 0) && ((neverA wideL).2 == 0)) && ((weighA ownL).2 == 0)) == true)) then [0, 0, 1, 1] else []))) == true)) then [4] else []))) && ((weighA ownL).1 == 0))), by kernel_rfl, fun nV w' h => ⟨by rw [show stowedL = (((((((fewestA lightL).2 == 0) && ((neverA wideL).2 == 0)) && ((weighA ownL).2 == 0)) && (alikeF (fewestA lightL).1 (bif (true && (((((fewestA lightL).2 == 0) && ((neverA wideL).2 == 0)) && ((weighA ownL).2 == 0)) == true)) then [0, 0, 1, 1] else []))) && (alikeF (neverA wideL).1 (bif (true && ((((((fewestA lightL).2 == 0) && ((neverA wideL).2 == 0)) && ((weighA ownL).2 == 0)) && (alikeF (fewestA lightL).1 (bif (true && (((((fewestA lightL).2 == 0) && ((neverA wideL).2 == 0)) && ((weighA ownL).2 == 0)) == true)) then [0, 0, 1, 1] else []))) == true)) then [4] else []))) && ((weighA ownL).1 == 0)) from by unfold stowedL; simp only [hc2, cond_true, cond_false]]; rfl, h.bel⟩⟩
theorem stowedL_true : stowedL = true := by kernel_rfl
end Go.Proofs.YthfnedbpmdkdjaaDoor.D
namespace Go.Proofs.YthfnedbpmdkdjaaDoor.D
open Go Go.RowKit Go.Proofs.YthfnedbpmdkdjaaDoor.Eng Go.Proofs.YthfnedbpmdkdjaaDoor.Cm
set_option linter.unusedVariables false
set_option linter.unusedSimpArgs false
set_option linter.unusedSectionVars false
def soundL_c1 (b : DBook) (k1 : Nat) : Bool → Bool := fun v1_1 => v1_1 && (decide ((k1 : Int) < (b.loads.length : Int)))
def soundL_b1 (b : DBook) (k1 : Nat) : Bool → Bd Bool Bool := fun v1_1 => .go ((validF (b.loads.getD k1 zLoad).w 1 60) && (insideF (b.loads.getD k1 zLoad).lanes 1 7))
def soundL (b : DBook) : Bool :=
  (match loopR (soundL_c1 b) (soundL_b1 b) b.loads.length 0 (((((checkD b) == 0) && (insideF (b.loads.length : Int) 1 5)) && (insideF b.rule 0 30)) && (insideF b.most 1 200)) with | .brk u1_0 => u1_0 | .ret r => r)
theorem soundL_calls (g0 : Value) (b : DBook) (w : World) (r0 : Reads w g0 3 b.loads encLoad zLoad)  : Calls Tryd.prog 26 #[.agg #[g0, iv b.rule, iv b.most]] w fun e w' => e = .returned (.bool (soundL b)) ∧ Below w.heap.size w w' := by
  refine calls_of_WP (cx := cx0 w (vn [g0]) 1) (n := vn [g0]) (vs := [.g [.ref 0, .int .i64 b.rule, .int .i64 b.most]]) (hp := [(0, .sl .ro 61 3 b.loads encLoad zLoad)]) (nx := 1) tt_ok Tryd.func26 rfl rfl rfl (by kernel_rfl) (HSat_args (vn_one (by simp [r0.one])) (Nat.le_refl _) ⟨⟨⟨fun _ => rfl, by decide, r0⟩, (Nat.le_of_ble_eq_true rfl)⟩, trivial⟩) (vsOk (by kernel_rfl)) ?_
  have hl0 := Reads.len r0
  refine WP_seq (WP_region (WPO_all tt_ok (by kernel_rfl) ?_))
  refine WP_seq (WP_region (WPO_run tt_ok 1 (by kernel_rfl) ?_))
  refine CALL 66 [.g [.ref 0, .int .i64 b.rule, .int .i64 b.most]] (.s (.int .i64 (checkD b))) [] (by kernel_rfl) (goes_of (by kernel_rfl)) (by kernel_rfl) (by kernel_rfl) (fun hG nV w h => checkD_calls (nV 0) b w (h.reads (id := 0) (kd := .ro) (e := 61) (by kernel_rfl)) ) ?_
  refine WPO_run tt_ok 5 (by kernel_rfl) ?_
  refine CALL 34 [.s (.int .i64 (b.loads.length : Int)), .s (.int .i64 1), .s (.int .i64 5)] (.s (.bool (insideF (b.loads.length : Int) 1 5))) [((checkD b) == 0, true)] (by kernel_rfl) (goes_of (by kernel_rfl)) (by kernel_rfl) (by kernel_rfl) (fun hG nV w h => insideF_calls  (b.loads.length : Int) 1 5 w  ) ?_
  refine WPO_run tt_ok 4 (by kernel_rfl) ?_
  refine CALL 34 [.s (.int .i64 b.rule), .s (.int .i64 0), .s (.int .i64 30)] (.s (.bool (insideF b.rule 0 30))) [(((checkD b) == 0) && (insideF (b.loads.length : Int) 1 5), true)] (by kernel_rfl) (goes_of (by kernel_rfl)) (by kernel_rfl) (by kernel_rfl) (fun hG nV w h => insideF_calls  b.rule 0 30 w  ) ?_
  refine WPO_run tt_ok 4 (by kernel_rfl) ?_
  refine CALL 34 [.s (.int .i64 b.most), .s (.int .i64 1), .s (.int .i64 200)] (.s (.bool (insideF b.most 1 200))) [((((checkD b) == 0) && (insideF (b.loads.length : Int) 1 5)) && (insideF b.rule 0 30), true)] (by kernel_rfl) (goes_of (by kernel_rfl)) (by kernel_rfl) (by kernel_rfl) (fun hG nV w h => insideF_calls  b.most 1 200 w  ) ?_
  refine WPO_all tt_ok (by kernel_rfl) ?_
  refine WP_seq (WP_seq (WP_region (WPO_all tt_ok (by kernel_rfl) ?_)))
  refine WP_loopA (ρ := Bool) (soundL_c1 b) (soundL_b1 b) b.loads.length (((((checkD b) == 0) && (insideF (b.loads.length : Int) 1 5)) && (insideF b.rule 0 30)) && (insideF b.most 1 200)) (fun k : Nat => (k : Int)) (fun (ci : Int) (zz : Bool) => ⟨51, [(4, [], .s (.int .i64 ci)), (3, [], .s (.bool zz)), (1, [], .s (.p 1 0))], [(1, .box 24 [.ref 0, .int .i64 b.rule, .int .i64 b.most]), (0, .sl .ro 61 3 b.loads encLoad zLoad)], 2, []⟩) (fun zz : Bool => ⟨51, [(3, [], .s (.bool zz))], [(1, .box 24 [.ref 0, .int .i64 b.rule, .int .i64 b.most]), (0, .sl .ro 61 3 b.loads encLoad zLoad)], 2, []⟩) (fun k zz => True) trivial ⟨0, rfl, Le_sel (ts := [4, 3, 1]) (ids := [1, 0]) (nx := 2) (by kernel_rfl)⟩ ?_ ?_
  · intro k1 v1_1 hn1 hp1 hi1 Q1 hq1 ho1
    refine WP_seq (WP_seq (WP_region (WPO_all tt_ok (by kernel_rfl) ?_)))
    refine WP_cond (v1_1 && (decide ((k1 : Int) < (b.loads.length : Int)))) (by kernel_rfl) (fun hc1 => ?_) (fun hc1 => ?_)
    rotate_left
    · refine WP_exit ?_
      show Q1 (.exit 0) _
      exact LA_exit hq1 v1_1 (loopR_end hi1 hc1) ⟨k1, hn1, hp1⟩ (Le_sel (ts := [3]) (ids := [1, 0]) (nx := 2) (by kernel_rfl))
    have hc1' := hc1; try simp only [Bool.and_eq_true, Bool.or_eq_true, Bool.and_eq_false_iff, Bool.or_eq_false_iff, Bool.not_eq_true', Bool.not_eq_false', decide_eq_true_eq, decide_eq_false_iff_not, beq_iff_eq, beq_eq_false_iff_ne, bne_iff_ne, bne_eq_false_iff_eq, ne_eq] at hc1'
    have hk1 : k1 < b.loads.length := by omega
    refine WP_skip ?_
    refine WP_seq (WP_block ?_)
    refine WP_region (WPO_run tt_ok 3 (by kernel_rfl) ?_)
    refine IX tt_ok (k1 : Int) b.loads.length [] (by kernel_rfl) (fun hG => ⟨by omega, by omega⟩) ?_
    refine WPO_run tt_ok 2 (by kernel_rfl) ?_
    refine CALL 83 [.g [.int .i64 (b.loads.getD k1 zLoad).w.lo, .int .i64 (b.loads.getD k1 zLoad).w.hi], .s (.int .i64 1), .s (.int .i64 60)] (.s (.bool (validF (b.loads.getD k1 zLoad).w 1 60))) [] (by kernel_rfl) (goes_of (by kernel_rfl)) (by kernel_rfl) (by kernel_rfl) (fun hG nV w h => validF_calls  (b.loads.getD k1 zLoad).w 1 60 w  ) ?_
    refine WPO_run tt_ok 4 (by kernel_rfl) ?_
    refine IX tt_ok (k1 : Int) b.loads.length [((validF (b.loads.getD k1 zLoad).w 1 60), true)] (by kernel_rfl) (fun hG => (by (try simp only [AllEq, and_true, Bool.and_eq_true, Bool.or_eq_true, Bool.not_eq_true', decide_eq_true_eq, decide_eq_false_iff_not] at hG); constructor <;> omega)) ?_
    refine WPO_run tt_ok 2 (by kernel_rfl) ?_
    refine CALL 34 [.s (.int .i64 (b.loads.getD k1 zLoad).lanes), .s (.int .i64 1), .s (.int .i64 7)] (.s (.bool (insideF (b.loads.getD k1 zLoad).lanes 1 7))) [((validF (b.loads.getD k1 zLoad).w 1 60), true)] (by kernel_rfl) (goes_of (by kernel_rfl)) (by kernel_rfl) (by kernel_rfl) (fun hG nV w h => insideF_calls  (b.loads.getD k1 zLoad).lanes 1 7 w  ) ?_
    refine WPO_all tt_ok (by kernel_rfl) ?_
    refine WP_region (WPO_all tt_ok (by kernel_rfl) ?_)
    show Q1 .normal _
    exact LA_go hq1 (ci := IntKind.i64.wrap ((k1 : Int) + 1)) ((validF (b.loads.getD k1 zLoad).w 1 60) && (insideF (b.loads.getD k1 zLoad).lanes 1 7)) hk1 (by show _ = ((k1 + 1 : Nat) : Int); rw [wrapI (by omega) (by omega)]; omega) (loopR_go hi1 hk1 hc1 (rfl)) trivial (Le_sel (ts := [4, 3, 1]) (ids := [1, 0]) (nx := 2) (by kernel_rfl))
  intro u1_0 hR1 hP1 s' hl
  refine WP_le hl ?_
  clear hl s'
  refine WP_seq (WP_region (WPO_all tt_ok (by kernel_rfl) ?_))
  refine WP_ret ?_
  exact ⟨.s (.bool u1_0), by kernel_rfl, fun nV w' h => ⟨by rw [show soundL b = u1_0 from by unfold soundL; simp only [hR1, cond_true, cond_false]]; rfl, h.bel⟩⟩
def chosenL (b : DBook) (n : Int) : (List Int) :=
  (membersF (modF n (IntKind.i64.wrap (1 * 2 ^ (min (b.loads.length : Int).toNat IntKind.i64.bits)))) (b.loads.length : Int))
theorem chosenL_calls (g0 : Value) (b : DBook) (n : Int) (w : World) (r0 : Reads w g0 3 b.loads encLoad zLoad) (hb5 : b.loads.length ≤ 5) : Calls Tryd.prog 28 #[.agg #[g0, iv b.rule, iv b.most], iv n] w fun e w' => ∃ v0, e = .returned (v0) ∧ Below w.heap.size w w' ∧ w'.ownsRow w.heap.size 3 1 v0 (chosenL b n).length (flat (chosenL b n) encI) := by
  refine calls_of_WP (cx := cx0 w (vn [g0]) 1) (n := vn [g0]) (vs := [.g [.ref 0, .int .i64 b.rule, .int .i64 b.most], .s (.int .i64 n)]) (hp := [(0, .sl .ro 61 3 b.loads encLoad zLoad)]) (nx := 1) tt_ok Tryd.func28 rfl rfl rfl (by kernel_rfl) (HSat_args (vn_one (by simp [r0.one])) (Nat.le_refl _) ⟨⟨⟨fun _ => rfl, by decide, r0⟩, (Nat.le_of_ble_eq_true rfl)⟩, trivial⟩) (vsOk (by kernel_rfl)) ?_
  have hl0 := Reads.len r0
  refine WP_seq (WP_region (WPO_all tt_ok (by kernel_rfl) ?_))
  refine WP_seq (WP_drawH [] (by kernel_rfl) (by kernel_rfl) ?_)
  refine H_run tt_ok [0, 1, 2, 3] (f' := 7) (by kernel_rfl) (by kernel_rfl) (by kernel_rfl) ?_
  refine H_BIN 4 .shl 3 (.const (.int .i64 1)) (.tmp 8) (.s (.int .i64 1)) (.s (.int .i64 (b.loads.length : Int))) (.s (.int .i64 (IntKind.i64.wrap (1 * 2 ^ (min (b.loads.length : Int).toNat IntKind.i64.bits))))) [] (by kernel_rfl) (by kernel_rfl) (by kernel_rfl) (fun _ _ => BinOk_shl (by omega)) (by kernel_rfl) (by kernel_rfl) ?_
  refine H_run tt_ok [6, 7, 8] (f' := 3) (by kernel_rfl) (by kernel_rfl) (by kernel_rfl) ?_
  refine H_step 5 (by kernel_rfl) (by kernel_rfl) (fun hfz cx' hx1 hx2 => ?_)
  refine CALL 54 [.s (.int .i64 n), .s (.int .i64 (IntKind.i64.wrap (1 * 2 ^ (min (b.loads.length : Int).toNat IntKind.i64.bits))))] (.s (.int .i64 (modF n (IntKind.i64.wrap (1 * 2 ^ (min (b.loads.length : Int).toNat IntKind.i64.bits)))))) [] (by kernel_rfl) (goes_of (by kernel_rfl)) (by kernel_rfl) (by kernel_rfl) (fun hG nV w h => modF_calls  n (IntKind.i64.wrap (1 * 2 ^ (min (b.loads.length : Int).toNat IntKind.i64.bits))) w  ) ?_
  refine WPO_end (by kernel_rfl) ⟨rfl, (hfz.fnds [1, 0] (by kernel_rfl) ⟨by kernel_rfl, by kernel_rfl, trivial⟩ (by kernel_rfl)), ?_⟩
  refine H_step 9 (by kernel_rfl) (by kernel_rfl) (fun hfz cx' hx1 hx2 => ?_)
  refine CALLO 57 [.s (.int .i64 (modF n (IntKind.i64.wrap (1 * 2 ^ (min (b.loads.length : Int).toNat IntKind.i64.bits))))), .s (.int .i64 (b.loads.length : Int))] (.s (.ref 2)) 3 1 (membersF (modF n (IntKind.i64.wrap (1 * 2 ^ (min (b.loads.length : Int).toNat IntKind.i64.bits)))) (b.loads.length : Int)) encI 0 2 (by kernel_rfl) (by kernel_rfl) (goes_of (by kernel_rfl)) (by kernel_rfl) (by kernel_rfl) (fun _ => rfl) ((fun nV w h => membersF_calls  (modF n (IntKind.i64.wrap (1 * 2 ^ (min (b.loads.length : Int).toNat IntKind.i64.bits)))) (b.loads.length : Int) w  (by first | assumption | omega))) ?_
  refine WPO_end (by kernel_rfl) ⟨rfl, (hfz.fnds [1, 0] (by kernel_rfl) ⟨by kernel_rfl, by kernel_rfl, trivial⟩ (by kernel_rfl)), ?_⟩
  refine H_run tt_ok [10] (f' := 0) (by kernel_rfl) (by kernel_rfl) (by kernel_rfl) ?_
  refine H_done (by kernel_rfl) ?_
  refine WP_ret ?_
  exact ⟨.s (.ref 2), by kernel_rfl, fun nV w' h => ⟨nV 2, rfl, h.bel, by rw [show chosenL b n = (membersF (modF n (IntKind.i64.wrap (1 * 2 ^ (min (b.loads.length : Int).toNat IntKind.i64.bits)))) (b.loads.length : Int)) from rfl]; exact own_of (z := 0) h (by kernel_rfl)⟩⟩
def flippedL (lanes : Int) : Int :=
  IntKind.i64.wrap (BitVec.ofInt IntKind.i64.bits (IntKind.i64.wrap (BitVec.ofInt IntKind.i64.bits (IntKind.i64.wrap (BitVec.ofInt IntKind.i64.bits lanes &&& BitVec.ofInt IntKind.i64.bits 2).toNat) ||| BitVec.ofInt IntKind.i64.bits (IntKind.i64.wrap (BitVec.ofInt IntKind.i64.bits (Int.fdiv lanes (2 ^ (min (2 : Int).toNat IntKind.i64.bits))) &&& BitVec.ofInt IntKind.i64.bits 1).toNat)).toNat) ||| BitVec.ofInt IntKind.i64.bits (IntKind.i64.wrap ((IntKind.i64.wrap (BitVec.ofInt IntKind.i64.bits lanes &&& BitVec.ofInt IntKind.i64.bits 1).toNat) * 2 ^ (min (2 : Int).toNat IntKind.i64.bits)))).toNat
theorem flippedL_calls  (lanes : Int) (w : World)   : Calls Tryd.prog 43 #[iv lanes] w fun e w' => e = .returned (iv (flippedL lanes)) ∧ Below w.heap.size w w' := by
  refine calls_of_WP (cx := cx0 w Eng.n0 0) (n := Eng.n0) (vs := [.s (.int .i64 lanes)]) (hp := []) (nx := 0) tt_ok Tryd.func43 rfl rfl rfl (by kernel_rfl) (HSat0 _ _ _ _ _ _ (fun _ => rfl) (Nat.le_refl _)) (vsOk (by kernel_rfl)) ?_
  refine WP_seq (WP_region (WPO_all tt_ok (by kernel_rfl) ?_))
  refine WP_seq (WP_region (WPO_run tt_ok 3 (by kernel_rfl) ?_))
  refine BIN .shr 3 (.tmp 5) (.const (.int .u64 2)) (.s (.int .i64 lanes)) (.s (.int .u64 2)) (.s (.int .i64 (Int.fdiv lanes (2 ^ (min (2 : Int).toNat IntKind.i64.bits))))) [] (by kernel_rfl) (by kernel_rfl) (by kernel_rfl) (fun _ => BinOk_shr (by omega)) ?_
  refine WPO_run tt_ok 4 (by kernel_rfl) ?_
  refine BIN .shl 3 (.tmp 10) (.const (.int .u64 2)) (.s (.int .i64 (IntKind.i64.wrap (BitVec.ofInt IntKind.i64.bits lanes &&& BitVec.ofInt IntKind.i64.bits 1).toNat))) (.s (.int .u64 2)) (.s (.int .i64 (IntKind.i64.wrap ((IntKind.i64.wrap (BitVec.ofInt IntKind.i64.bits lanes &&& BitVec.ofInt IntKind.i64.bits 1).toNat) * 2 ^ (min (2 : Int).toNat IntKind.i64.bits))))) [] (by kernel_rfl) (by kernel_rfl) (by kernel_rfl) (fun _ => BinOk_shl (by omega)) ?_
  refine WPO_all tt_ok (by kernel_rfl) ?_
  refine WP_ret ?_
  exact ⟨.s (.int .i64 (IntKind.i64.wrap (BitVec.ofInt IntKind.i64.bits (IntKind.i64.wrap (BitVec.ofInt IntKind.i64.bits (IntKind.i64.wrap (BitVec.ofInt IntKind.i64.bits lanes &&& BitVec.ofInt IntKind.i64.bits 2).toNat) ||| BitVec.ofInt IntKind.i64.bits (IntKind.i64.wrap (BitVec.ofInt IntKind.i64.bits (Int.fdiv lanes (2 ^ (min (2 : Int).toNat IntKind.i64.bits))) &&& BitVec.ofInt IntKind.i64.bits 1).toNat)).toNat) ||| BitVec.ofInt IntKind.i64.bits (IntKind.i64.wrap ((IntKind.i64.wrap (BitVec.ofInt IntKind.i64.bits lanes &&& BitVec.ofInt IntKind.i64.bits 1).toNat) * 2 ^ (min (2 : Int).toNat IntKind.i64.bits)))).toNat)), by kernel_rfl, fun nV w' h => ⟨by rw [show flippedL lanes = (IntKind.i64.wrap (BitVec.ofInt IntKind.i64.bits (IntKind.i64.wrap (BitVec.ofInt IntKind.i64.bits (IntKind.i64.wrap (BitVec.ofInt IntKind.i64.bits lanes &&& BitVec.ofInt IntKind.i64.bits 2).toNat) ||| BitVec.ofInt IntKind.i64.bits (IntKind.i64.wrap (BitVec.ofInt IntKind.i64.bits (Int.fdiv lanes (2 ^ (min (2 : Int).toNat IntKind.i64.bits))) &&& BitVec.ofInt IntKind.i64.bits 1).toNat)).toNat) ||| BitVec.ofInt IntKind.i64.bits (IntKind.i64.wrap ((IntKind.i64.wrap (BitVec.ofInt IntKind.i64.bits lanes &&& BitVec.ofInt IntKind.i64.bits 1).toNat) * 2 ^ (min (2 : Int).toNat IntKind.i64.bits)))).toNat) from rfl]; rfl, h.bel⟩⟩
def crossingL_c1 (l : List Int) (c : Int) (k1 : Nat) : (List Int) → Bool := fun v1_1 => decide ((k1 : Int) < (l.length : Int))
def crossingL_b1 (l : List Int) (c : Int) (k1 : Nat) : (List Int) → Bd (List Int) (List Int) := fun v1_1 => (bif (l.getD k1 0) == c then .go (v1_1 ++ ([(k1 : Int)])) else .go v1_1)
def crossingL (l : List Int) (c : Int) : (List Int) :=
  (match loopR (crossingL_c1 l c) (crossingL_b1 l c) l.length 0 ([] : List Int) with | .brk u1_0 => u1_0 | .ret r => r)
def trulyL_c1 (b : DBook) (bits : List Int) (k1 : Nat) : (List Int) → Bool := fun v1_1 => decide ((k1 : Int) < (b.loads.length : Int))
def trulyL_b1 (b : DBook) (bits : List Int) (k1 : Nat) : (List Int) → Bd (List Int) (List Int) := fun v1_1 => .go (v1_1 ++ ([(withF (b.loads.getD k1 zLoad).w (IntKind.i64.wrap ((chooseF bits (k1 : Int)) + (chooseF bits (IntKind.i64.wrap ((k1 : Int) + 1))))))]))
def trulyL (b : DBook) (bits : List Int) : (List Int) :=
  (match loopR (trulyL_c1 b bits) (trulyL_b1 b bits) b.loads.length 0 ([] : List Int) with | .brk u1_0 => u1_0 | .ret r => r)
end Go.Proofs.YthfnedbpmdkdjaaDoor.D
namespace Go.Proofs.YthfnedbpmdkdjaaDoor.Cm
open Go Go.RowKit Go.Proofs.YthfnedbpmdkdjaaDoor.Eng
set_option linter.unusedVariables false
set_option linter.unusedSimpArgs false
set_option linter.unusedSectionVars false
theorem range_erase (l : List Int) : ∀ i : Nat, ((List.range l.length).flatMap fun k : Nat => bif (k : Int) != (i : Int) then [l.getD k 0] else []) = l.eraseIdx i := by
  induction l with
  | nil => intro i; simp
  | cons x r ih =>
    intro i
    rw [List.length_cons, List.range_succ_eq_map, List.flatMap_cons, List.flatMap_map]
    cases i with
    | zero =>
      have h : ((List.range r.length).flatMap fun k : Nat => bif ((Nat.succ k : Nat) : Int) != ((0 : Nat) : Int) then [(x :: r).getD (Nat.succ k) 0] else []) = r := by
        have h1 : ((List.range r.length).flatMap fun k : Nat => bif ((Nat.succ k : Nat) : Int) != ((0 : Nat) : Int) then [(x :: r).getD (Nat.succ k) 0] else []) = (List.range r.length).map fun k => r.getD k 0 := by
          rw [List.map_eq_flatMap]
          congr 1
        rw [h1]
        apply List.ext_getElem
        · simp
        · intro j h1 h2
          simp [List.getD_eq_getElem?_getD, h2]
      rw [h]
      simp
    | succ i =>
      have h : ((List.range r.length).flatMap fun k : Nat => bif ((Nat.succ k : Nat) : Int) != ((i + 1 : Nat) : Int) then [(x :: r).getD (Nat.succ k) 0] else []) = r.eraseIdx i := by
        rw [← ih i]
        congr 1
        funext k
        have : (((Nat.succ k : Nat) : Int) != ((i + 1 : Nat) : Int)) = ((k : Int) != (i : Int)) := by
          rw [Bool.eq_iff_iff, bne_iff_ne, bne_iff_ne]; constructor <;> intro h h2 <;> apply h <;> omega
        rw [this]
        simp
      rw [h, show (((0 : Nat) : Int) != ((i + 1 : Nat) : Int)) = true from bne_iff_ne.2 (by omega)]
      simp
theorem dropped_eq {l : List Int} {i : Int} (h : 0 ≤ i) : droppedF l i = l.eraseIdx i.toNat := by
  unfold droppedF
  rw [loopR_app (fun k : Nat => bif (k : Int) != i then [l.getD k 0] else []) (fun k v hk => by simp only [droppedF_c1]; rw [decide_eq_true]; omega) (fun k v hk => by
    simp only [droppedF_b1]
    cases ((k : Int) != i) <;> simp)]
  rw [← range_erase l i.toNat, show ((i.toNat : Nat) : Int) = i by omega]
  simp
theorem dropped_len {l : List Int} {i : Int} (h : 0 ≤ i ∧ i < l.length) : (droppedF l i).length + 1 = l.length := by
  rw [dropped_eq h.1, List.length_eraseIdx_of_lt (by omega)]; omega
theorem dropped_mem {l : List Int} {i x : Int} (h : 0 ≤ i) (hx : x ∈ droppedF l i) : x ∈ l := by
  rw [dropped_eq h] at hx
  exact List.mem_of_mem_eraseIdx hx
end Go.Proofs.YthfnedbpmdkdjaaDoor.Cm
namespace Go.Proofs.YthfnedbpmdkdjaaDoor.D
open Go Go.RowKit Go.Proofs.YthfnedbpmdkdjaaDoor.Eng Go.Proofs.YthfnedbpmdkdjaaDoor.Cm
set_option linter.unusedVariables false
set_option linter.unusedSimpArgs false
set_option linter.unusedSectionVars false
def drawnL_c1 (b : DBook) (loads : List Int) (bits : List Int) (k1 : Nat) : ((List Int) × (List Place)) → Bool := fun (v1_0, v1_1) => decide ((v1_0.length : Int) > 0)
def drawnL_b1 (b : DBook) (loads : List Int) (bits : List Int) (k1 : Nat) : ((List Int) × (List Place)) → Bd ((List Int) × (List Place)) (List Place) := fun (v1_0, v1_1) => .go ((droppedF v1_0 (modF (chooseF bits (v1_1.length : Int)) (v1_0.length : Int))), v1_1 ++ ([(placeL (v1_0.getD (modF (chooseF bits (v1_1.length : Int)) (v1_0.length : Int)).toNat 0) (chooseF (membersF (b.loads.getD (v1_0.getD (modF (chooseF bits (v1_1.length : Int)) (v1_0.length : Int)).toNat 0).toNat zLoad).lanes 3) (chooseF bits (IntKind.i64.wrap ((v1_1.length : Int) + 2)))))]))
def drawnL (b : DBook) (loads : List Int) (bits : List Int) : (List Place) :=
  (match loopR (drawnL_c1 b loads bits) (drawnL_b1 b loads bits) loads.length 0 (([] : List Int) ++ loads, []) with | .brk (u1_0, u1_1) => u1_1 | .ret r => r)
theorem drawnL_calls (g0 g1 g2 : Value) (b : DBook) (loads : List Int) (bits : List Int) (w : World) (r0 : Reads w g0 3 b.loads encLoad zLoad) (r1 : Reads w g1 1 loads encI 0) (r2 : Reads w g2 1 bits encI 0) (hb5 : b.loads.length ≤ 5) (hll : loads.length ≤ 5) (hlo : ∀ x ∈ loads, 0 ≤ x ∧ x < b.loads.length) : Calls Tryd.prog 29 #[.agg #[g0, iv b.rule, iv b.most], g1, g2] w fun e w' => ∃ v0, e = .returned (v0) ∧ Below w.heap.size w w' ∧ w'.ownsRow w.heap.size 65 2 v0 (drawnL b loads bits).length (flat (drawnL b loads bits) encPlace) := by
  refine calls_of_WP (cx := cx0 w (vn [g0, g1, g2]) 3) (n := vn [g0, g1, g2]) (vs := [.g [.ref 0, .int .i64 b.rule, .int .i64 b.most], .s (.ref 1), .s (.ref 2)]) (hp := [(0, .sl .ro 61 3 b.loads encLoad zLoad), (1, .sl .ro 3 1 loads encI 0), (2, .sl .ro 3 1 bits encI 0)]) (nx := 3) tt_ok Tryd.func29 rfl rfl rfl (by kernel_rfl) (HSat_args (vn_one (by simp [r0.one, r1.one, r2.one])) (Nat.le_refl _) ⟨⟨⟨fun _ => rfl, by decide, r0⟩, (Nat.le_of_ble_eq_true rfl)⟩, ⟨⟨fun _ => rfl, by decide, r1⟩, (Nat.le_of_ble_eq_true rfl)⟩, ⟨⟨fun _ => rfl, by decide, r2⟩, (Nat.le_of_ble_eq_true rfl)⟩, trivial⟩) (vsOk (by kernel_rfl)) ?_
  have hl0 := Reads.len r0
  have hl1 := Reads.len r1
  have hl2 := Reads.len r2
  refine WP_seq (WP_region (WPO_all tt_ok (by kernel_rfl) ?_))
  refine WP_seq (WP_region (WPO_all tt_ok (by kernel_rfl) ?_))
  refine WP_seq (WP_region (LIT tt_ok (by kernel_rfl) ?_))
  refine LITSL 4 3 0 1 [] ([] : List Int) encI 0 (by kernel_rfl) rfl (fun _ => rfl) (fun n => rfl) ?_
  refine WPO_run tt_ok 1 (by kernel_rfl) ?_
  refine APPS tt_ok (.s (.ref 4)) (.s (.ref 1)) 33 3 (some 13) 1 ([] : List Int) loads encI 0 (by kernel_rfl) (by kernel_rfl) (by kernel_rfl) (by kernel_rfl) (.inr ⟨4, rfl, (by kernel_rfl)⟩) ⟨1, .ro, rfl, (by kernel_rfl)⟩ (fun y => rfl) (fun y => List.all_eq_true.1 rfl) (fun i hi => (by have hby : (tyL tt 3).map (·.bytes) = some 8 := (by kernel_rfl); rw [hi] at hby; simp only [Option.map_some, Option.some.injEq] at hby; rw [hby]; simp only [List.length_append, List.length_cons, List.length_nil]; omega)) ?_
  refine WPO_all tt_ok (by kernel_rfl) ?_
  refine WP_seq (WP_loopA (ρ := (List Place)) (drawnL_c1 b loads bits) (drawnL_b1 b loads bits) loads.length (([] : List Int) ++ loads, []) (fun k : Nat => (k : Int)) (fun (ci : Int) (zz : (List Int) × (List Place)) => ⟨53, [(8, [], .s (.ref 6)), (7, [], .s (.ref 7)), (3, [], .s (.p 3 0)), (2, [], .s (.ref 2))], [(7, .sl .own 65 2 zz.2 encPlace zPlace), (6, .sl .own 3 1 zz.1 encI 0), (3, .box 24 [.ref 0, .int .i64 b.rule, .int .i64 b.most]), (0, .sl .ro 61 3 b.loads encLoad zLoad), (1, .sl .ro 3 1 loads encI 0), (2, .sl .ro 3 1 bits encI 0)], 8, []⟩) (fun zz : (List Int) × (List Place) => ⟨53, [(7, [], .s (.ref 7))], [(7, .sl .own 65 2 zz.2 encPlace zPlace), (6, .sl .own 3 1 zz.1 encI 0), (3, .box 24 [.ref 0, .int .i64 b.rule, .int .i64 b.most]), (0, .sl .ro 61 3 b.loads encLoad zLoad), (1, .sl .ro 3 1 loads encI 0), (2, .sl .ro 3 1 bits encI 0)], 8, []⟩) (fun (k1 : Nat) (zz : (List Int) × (List Place)) => (zz.1.length + k1 = loads.length ∧ ∀ x ∈ zz.1, 0 ≤ x ∧ x < b.loads.length) ∧ zz.2.length = k1) ⟨⟨by simp, fun x hx => hlo x (by simpa using hx)⟩, rfl⟩ ⟨0, rfl, Le.trans (Le_nilT [7] 65 2 encPlace zPlace (fun _ => rfl)) (Le_ren [(7, 6), (6, 5)] ⟨by kernel_rfl, by kernel_rfl, by kernel_rfl, by kernel_rfl, by kernel_rfl, by kernel_rfl, trivial⟩ ⟨by kernel_rfl, rfl, by kernel_rfl, by kernel_rfl, rfl, by kernel_rfl, by kernel_rfl, rfl, by kernel_rfl, by kernel_rfl, rfl, by kernel_rfl, trivial⟩ (by kernel_rfl) (by kernel_rfl) (rnm_id (m := 3) (by kernel_rfl)) (by show 3 ≤ 8; decide) (by kernel_rfl) (by kernel_rfl))⟩ ?_ ?_)
  · intro k1 zz hn1 hp1 hi1 Q1 hq1 ho1
    obtain ⟨v1_0, v1_1⟩ := zz
    replace hp1 : (v1_0.length + k1 = loads.length ∧ ∀ x ∈ v1_0, 0 ≤ x ∧ x < b.loads.length) ∧ v1_1.length = k1 := hp1
    refine WP_seq (WP_seq (WP_region (WPO_all tt_ok (by kernel_rfl) ?_)))
    refine WP_cond (decide ((v1_0.length : Int) > 0)) (by kernel_rfl) (fun hc1 => ?_) (fun hc1 => ?_)
    rotate_left
    · refine WP_exit ?_
      show Q1 (.exit 0) _
      exact LA_exit hq1 (v1_0, v1_1) (loopR_end hi1 hc1) ⟨k1, hn1, hp1⟩ (Le_sel (ts := [7]) (ids := [7, 6, 3, 0, 1, 2]) (nx := 8) (by kernel_rfl))
    have hc1' := of_decide_eq_true hc1
    have hk1 : k1 < loads.length := by omega
    have hat := modF_in (chooseF bits (v1_1.length : Int)) (v1_0.length : Int) (by omega) (by omega)
    have hel := hp1.1.2 _ (getD_mem (z := 0) (show (modF (chooseF bits (v1_1.length : Int)) (v1_0.length : Int)).toNat < v1_0.length by omega))
    refine WP_skip ?_
    refine WP_block ?_
    refine WP_seq (WP_region (WPO_run tt_ok 3 (by kernel_rfl) ?_))
    refine CALL 55 [.s (.ref 2), .s (.int .i64 (v1_1.length : Int))] (.s (.int .i64 (chooseF bits (v1_1.length : Int)))) [] (by kernel_rfl) (goes_of (by kernel_rfl)) (by kernel_rfl) (by kernel_rfl) (fun hG nV w h => chooseF_calls (nV 2) bits (v1_1.length : Int) w (h.reads (id := 2) (kd := .ro) (e := 3) (by kernel_rfl)) ) ?_
    refine WPO_run tt_ok 2 (by kernel_rfl) ?_
    refine CALL 54 [.s (.int .i64 (chooseF bits (v1_1.length : Int))), .s (.int .i64 (v1_0.length : Int))] (.s (.int .i64 (modF (chooseF bits (v1_1.length : Int)) (v1_0.length : Int)))) [] (by kernel_rfl) (goes_of (by kernel_rfl)) (by kernel_rfl) (by kernel_rfl) (fun hG nV w h => modF_calls  (chooseF bits (v1_1.length : Int)) (v1_0.length : Int) w  ) ?_
    refine WPO_all tt_ok (by kernel_rfl) ?_
    refine WP_seq (WP_drawH [] (by kernel_rfl) (by kernel_rfl) ?_)
    refine H_run tt_ok [0, 1, 2, 3] (f' := 6) (by kernel_rfl) (by kernel_rfl) (by kernel_rfl) ?_
    refine H_IX tt_ok 4 (modF (chooseF bits (v1_1.length : Int)) (v1_0.length : Int)) v1_0.length [] (by kernel_rfl) (fun hG => ⟨by omega, by omega⟩) (by kernel_rfl) (by kernel_rfl) ?_
    refine H_run tt_ok [5] (f' := 4) (by kernel_rfl) (by kernel_rfl) (by kernel_rfl) ?_
    refine H_IX tt_ok 6 (v1_0.getD (modF (chooseF bits (v1_1.length : Int)) (v1_0.length : Int)).toNat 0) b.loads.length [] (by kernel_rfl) (fun hG => ⟨by omega, by omega⟩) (by kernel_rfl) (by kernel_rfl) ?_
    refine H_run tt_ok [7] (f' := 2) (by kernel_rfl) (by kernel_rfl) (by kernel_rfl) ?_
    refine H_step 8 (by kernel_rfl) (by kernel_rfl) (fun hfz cx' hx1 hx2 => ?_)
    refine WPO_all tt_ok (by kernel_rfl) ?_
    refine ⟨rfl, (hfz.fnds [7, 6, 3, 0, 1, 2] (by kernel_rfl) ⟨by kernel_rfl, by kernel_rfl, by kernel_rfl, by kernel_rfl, by kernel_rfl, by kernel_rfl, trivial⟩ (by kernel_rfl)), ?_⟩
    refine H_step 9 (by kernel_rfl) (by kernel_rfl) (fun hfz cx' hx1 hx2 => ?_)
    refine WPO_all tt_ok (by kernel_rfl) ?_
    refine ⟨rfl, (hfz.fnds [7, 6, 3, 0, 1, 2] (by kernel_rfl) ⟨by kernel_rfl, by kernel_rfl, by kernel_rfl, by kernel_rfl, by kernel_rfl, by kernel_rfl, trivial⟩ (by kernel_rfl)), ?_⟩
    refine H_done (by kernel_rfl) ?_
    refine WP_seq (WP_toX (σ := Unit) (fun _ => ⟨53, [(7, [], .s (.ref 11)), (9, [], .s (.int .i64 (modF (chooseF bits (v1_1.length : Int)) (v1_0.length : Int)))), (8, [], .s (.ref 6)), (3, [], .s (.p 3 0)), (2, [], .s (.ref 2))], [(11, .sl .own 65 2 (v1_1 ++ ([(placeL (v1_0.getD (modF (chooseF bits (v1_1.length : Int)) (v1_0.length : Int)).toNat 0) (chooseF (membersF (b.loads.getD (v1_0.getD (modF (chooseF bits (v1_1.length : Int)) (v1_0.length : Int)).toNat 0).toNat zLoad).lanes 3) (chooseF bits (IntKind.i64.wrap ((v1_1.length : Int) + 2)))))])) encPlace zPlace), (8, .box 61 [.int .i64 (b.loads.getD (v1_0.getD (modF (chooseF bits (v1_1.length : Int)) (v1_0.length : Int)).toNat 0).toNat zLoad).w.lo, .int .i64 (b.loads.getD (v1_0.getD (modF (chooseF bits (v1_1.length : Int)) (v1_0.length : Int)).toNat 0).toNat zLoad).w.hi, .int .i64 (b.loads.getD (v1_0.getD (modF (chooseF bits (v1_1.length : Int)) (v1_0.length : Int)).toNat 0).toNat zLoad).lanes]), (6, .sl .own 3 1 v1_0 encI 0), (3, .box 24 [.ref 0, .int .i64 b.rule, .int .i64 b.most]), (0, .sl .ro 61 3 b.loads encLoad zLoad), (1, .sl .ro 3 1 loads encI 0), (2, .sl .ro 3 1 bits encI 0)], 12, []⟩) ?_ ?_)
    · refine WP_drawH [7] (by kernel_rfl) (by kernel_rfl) ?_
      refine H_run tt_ok [0, 1, 2] (f' := 15) (by kernel_rfl) (by kernel_rfl) (by kernel_rfl) ?_
      refine H_IX tt_ok 3 (modF (chooseF bits (v1_1.length : Int)) (v1_0.length : Int)) v1_0.length [] (by kernel_rfl) (fun hG => ⟨by omega, by omega⟩) (by kernel_rfl) (by kernel_rfl) ?_
      refine H_run tt_ok [4, 5, 6, 8, 9] (f' := 9) (by kernel_rfl) (by kernel_rfl) (by kernel_rfl) ?_
      refine H_two 7 10 (by kernel_rfl) (by kernel_rfl) (by kernel_rfl) (fun hfz cx' hx1 hx2 => ?_) (fun hfz cx' hx1 hx2 => ?_)
      · refine CALLO 57 [.s (.int .i64 (b.loads.getD (v1_0.getD (modF (chooseF bits (v1_1.length : Int)) (v1_0.length : Int)).toNat 0).toNat zLoad).lanes), .s (.int .i64 3)] (.s (.ref 9)) 3 1 (membersF (b.loads.getD (v1_0.getD (modF (chooseF bits (v1_1.length : Int)) (v1_0.length : Int)).toNat 0).toNat zLoad).lanes 3) encI 0 9 (by kernel_rfl) (by kernel_rfl) (goes_of (by kernel_rfl)) (by kernel_rfl) (by kernel_rfl) (fun _ => rfl) ((fun nV w h => membersF_calls  (b.loads.getD (v1_0.getD (modF (chooseF bits (v1_1.length : Int)) (v1_0.length : Int)).toNat 0).toNat zLoad).lanes 3 w  (by first | assumption | omega))) ?_
        refine WPO_end (by kernel_rfl) ⟨rfl, (hfz.fnds [8, 6, 3, 0, 1, 2] (by kernel_rfl) ⟨by kernel_rfl, by kernel_rfl, by kernel_rfl, by kernel_rfl, by kernel_rfl, by kernel_rfl, trivial⟩ (by kernel_rfl)), ?_⟩
        refine H_step 10 (by kernel_rfl) (by kernel_rfl) (fun hfz cx' hx1 hx2 => ?_)
        refine WPO_all tt_ok (by kernel_rfl) ?_
        refine ⟨rfl, (hfz.fnds [8, 6, 3, 0, 1, 2] (by kernel_rfl) ⟨by kernel_rfl, by kernel_rfl, by kernel_rfl, by kernel_rfl, by kernel_rfl, by kernel_rfl, trivial⟩ (by kernel_rfl)), ?_⟩
        refine H_run tt_ok [11] (f' := 6) (by kernel_rfl) (by kernel_rfl) (by kernel_rfl) ?_
        refine H_step 12 (by kernel_rfl) (by kernel_rfl) (fun hfz cx' hx1 hx2 => ?_)
        refine CALL 55 [.s (.ref 2), .s (.int .i64 (IntKind.i64.wrap ((v1_1.length : Int) + 2)))] (.s (.int .i64 (chooseF bits (IntKind.i64.wrap ((v1_1.length : Int) + 2))))) [] (by kernel_rfl) (goes_of (by kernel_rfl)) (by kernel_rfl) (by kernel_rfl) (fun hG nV w h => chooseF_calls (nV 2) bits (IntKind.i64.wrap ((v1_1.length : Int) + 2)) w (h.reads (id := 2) (kd := .ro) (e := 3) (by kernel_rfl)) ) ?_
        refine WPO_end (by kernel_rfl) ⟨rfl, (hfz.fnds [8, 6, 3, 0, 1, 2] (by kernel_rfl) ⟨by kernel_rfl, by kernel_rfl, by kernel_rfl, by kernel_rfl, by kernel_rfl, by kernel_rfl, trivial⟩ (by kernel_rfl)), ?_⟩
        refine H_step 13 (by kernel_rfl) (by kernel_rfl) (fun hfz cx' hx1 hx2 => ?_)
        refine CALL 55 [.s (.ref 9), .s (.int .i64 (chooseF bits (IntKind.i64.wrap ((v1_1.length : Int) + 2))))] (.s (.int .i64 (chooseF (membersF (b.loads.getD (v1_0.getD (modF (chooseF bits (v1_1.length : Int)) (v1_0.length : Int)).toNat 0).toNat zLoad).lanes 3) (chooseF bits (IntKind.i64.wrap ((v1_1.length : Int) + 2)))))) [] (by kernel_rfl) (goes_of (by kernel_rfl)) (by kernel_rfl) (by kernel_rfl) (fun hG nV w h => chooseF_calls (nV 9) (membersF (b.loads.getD (v1_0.getD (modF (chooseF bits (v1_1.length : Int)) (v1_0.length : Int)).toNat 0).toNat zLoad).lanes 3) (chooseF bits (IntKind.i64.wrap ((v1_1.length : Int) + 2))) w (h.reads (id := 9) (kd := .own) (e := 3) (by kernel_rfl)) ) ?_
        refine WPO_end (by kernel_rfl) ⟨rfl, (hfz.fnds [8, 6, 3, 0, 1, 2] (by kernel_rfl) ⟨by kernel_rfl, by kernel_rfl, by kernel_rfl, by kernel_rfl, by kernel_rfl, by kernel_rfl, trivial⟩ (by kernel_rfl)), ?_⟩
        refine H_step 14 (by kernel_rfl) (by kernel_rfl) (fun hfz cx' hx1 hx2 => ?_)
        refine CALL 44 [.s (.int .i64 (v1_0.getD (modF (chooseF bits (v1_1.length : Int)) (v1_0.length : Int)).toNat 0)), .s (.int .i64 (chooseF (membersF (b.loads.getD (v1_0.getD (modF (chooseF bits (v1_1.length : Int)) (v1_0.length : Int)).toNat 0).toNat zLoad).lanes 3) (chooseF bits (IntKind.i64.wrap ((v1_1.length : Int) + 2)))))] (.g [.int .i64 (placeL (v1_0.getD (modF (chooseF bits (v1_1.length : Int)) (v1_0.length : Int)).toNat 0) (chooseF (membersF (b.loads.getD (v1_0.getD (modF (chooseF bits (v1_1.length : Int)) (v1_0.length : Int)).toNat 0).toNat zLoad).lanes 3) (chooseF bits (IntKind.i64.wrap ((v1_1.length : Int) + 2))))).load, .int .i64 (placeL (v1_0.getD (modF (chooseF bits (v1_1.length : Int)) (v1_0.length : Int)).toNat 0) (chooseF (membersF (b.loads.getD (v1_0.getD (modF (chooseF bits (v1_1.length : Int)) (v1_0.length : Int)).toNat 0).toNat zLoad).lanes 3) (chooseF bits (IntKind.i64.wrap ((v1_1.length : Int) + 2))))).lane]) [] (by kernel_rfl) (goes_of (by kernel_rfl)) (by kernel_rfl) (by kernel_rfl) (fun hG nV w h => placeL_calls  (v1_0.getD (modF (chooseF bits (v1_1.length : Int)) (v1_0.length : Int)).toNat 0) (chooseF (membersF (b.loads.getD (v1_0.getD (modF (chooseF bits (v1_1.length : Int)) (v1_0.length : Int)).toNat 0).toNat zLoad).lanes 3) (chooseF bits (IntKind.i64.wrap ((v1_1.length : Int) + 2)))) w  ) ?_
        refine WPO_end (by kernel_rfl) ⟨rfl, (hfz.fnds [8, 6, 3, 0, 1, 2] (by kernel_rfl) ⟨by kernel_rfl, by kernel_rfl, by kernel_rfl, by kernel_rfl, by kernel_rfl, by kernel_rfl, trivial⟩ (by kernel_rfl)), ?_⟩
        refine H_step 15 (by kernel_rfl) (by kernel_rfl) (fun hfz cx' hx1 hx2 => ?_)
        refine LIT tt_ok (by kernel_rfl) ?_
        refine LITSL 10 65 1 2 [.int .i64 (placeL (v1_0.getD (modF (chooseF bits (v1_1.length : Int)) (v1_0.length : Int)).toNat 0) (chooseF (membersF (b.loads.getD (v1_0.getD (modF (chooseF bits (v1_1.length : Int)) (v1_0.length : Int)).toNat 0).toNat zLoad).lanes 3) (chooseF bits (IntKind.i64.wrap ((v1_1.length : Int) + 2))))).load, .int .i64 (placeL (v1_0.getD (modF (chooseF bits (v1_1.length : Int)) (v1_0.length : Int)).toNat 0) (chooseF (membersF (b.loads.getD (v1_0.getD (modF (chooseF bits (v1_1.length : Int)) (v1_0.length : Int)).toNat 0).toNat zLoad).lanes 3) (chooseF bits (IntKind.i64.wrap ((v1_1.length : Int) + 2))))).lane] [(placeL (v1_0.getD (modF (chooseF bits (v1_1.length : Int)) (v1_0.length : Int)).toNat 0) (chooseF (membersF (b.loads.getD (v1_0.getD (modF (chooseF bits (v1_1.length : Int)) (v1_0.length : Int)).toNat 0).toNat zLoad).lanes 3) (chooseF bits (IntKind.i64.wrap ((v1_1.length : Int) + 2)))))] encPlace zPlace (by kernel_rfl) rfl (fun _ => rfl) (fun n => rfl) ?_
        refine WPO_end (by kernel_rfl) ⟨rfl, (hfz.fnds [8, 6, 3, 0, 1, 2] (by kernel_rfl) ⟨by kernel_rfl, by kernel_rfl, by kernel_rfl, by kernel_rfl, by kernel_rfl, by kernel_rfl, trivial⟩ (by kernel_rfl)), ?_⟩
        refine H_step 16 (by kernel_rfl) (by kernel_rfl) (fun hfz cx' hx1 hx2 => ?_)
        refine APP tt_ok (.s (.ref 7)) (.s (.ref 10)) 25 65 (some 48) 2 v1_1 ([(placeL (v1_0.getD (modF (chooseF bits (v1_1.length : Int)) (v1_0.length : Int)).toNat 0) (chooseF (membersF (b.loads.getD (v1_0.getD (modF (chooseF bits (v1_1.length : Int)) (v1_0.length : Int)).toNat 0).toNat zLoad).lanes 3) (chooseF bits (IntKind.i64.wrap ((v1_1.length : Int) + 2)))))]) encPlace zPlace (by kernel_rfl) (by kernel_rfl) (by kernel_rfl) (by kernel_rfl) (.inr (.inl ⟨7, rfl, (by kernel_rfl)⟩)) (.inr ⟨10, .own, rfl, (by kernel_rfl), (by simp only [List.length_cons, List.length_nil]; omega)⟩) (by simp) (fun y => rfl) (fun y => List.all_eq_true.1 rfl) (fun i hi => (by have hby : (tyL tt 65).map (·.bytes) = some 16 := (by kernel_rfl); rw [hi] at hby; simp only [Option.map_some, Option.some.injEq] at hby; rw [hby]; simp only [List.length_append, List.length_cons, List.length_nil]; omega)) ?_
        refine WPO_end (by kernel_rfl) ⟨rfl, (hfz.fnds [8, 6, 3, 0, 1, 2] (by kernel_rfl) ⟨by kernel_rfl, by kernel_rfl, by kernel_rfl, by kernel_rfl, by kernel_rfl, by kernel_rfl, trivial⟩ (by kernel_rfl)), ?_⟩
        refine H_run tt_ok [17] (f' := 0) (by kernel_rfl) (by kernel_rfl) (by kernel_rfl) ?_
        refine H_done (by kernel_rfl) ?_
        exact ⟨(), Le_sel (ts := [7, 9, 8, 3, 2]) (ids := [11, 8, 6, 3, 0, 1, 2]) (nx := 12) (by kernel_rfl)⟩
      · refine WPO_all tt_ok (by kernel_rfl) ?_
        refine ⟨rfl, (hfz.fnds [8, 6, 3, 0, 1, 2] (by kernel_rfl) ⟨by kernel_rfl, by kernel_rfl, by kernel_rfl, by kernel_rfl, by kernel_rfl, by kernel_rfl, trivial⟩ (by kernel_rfl)), ?_⟩
        refine H_run tt_ok [11] (f' := 7) (by kernel_rfl) (by kernel_rfl) (by kernel_rfl) ?_
        refine H_step 7 (by kernel_rfl) (by kernel_rfl) (fun hfz cx' hx1 hx2 => ?_)
        refine CALLO 57 [.s (.int .i64 (b.loads.getD (v1_0.getD (modF (chooseF bits (v1_1.length : Int)) (v1_0.length : Int)).toNat 0).toNat zLoad).lanes), .s (.int .i64 3)] (.s (.ref 9)) 3 1 (membersF (b.loads.getD (v1_0.getD (modF (chooseF bits (v1_1.length : Int)) (v1_0.length : Int)).toNat 0).toNat zLoad).lanes 3) encI 0 9 (by kernel_rfl) (by kernel_rfl) (goes_of (by kernel_rfl)) (by kernel_rfl) (by kernel_rfl) (fun _ => rfl) ((fun nV w h => membersF_calls  (b.loads.getD (v1_0.getD (modF (chooseF bits (v1_1.length : Int)) (v1_0.length : Int)).toNat 0).toNat zLoad).lanes 3 w  (by first | assumption | omega))) ?_
        refine WPO_end (by kernel_rfl) ⟨rfl, (hfz.fnds [8, 6, 3, 0, 1, 2] (by kernel_rfl) ⟨by kernel_rfl, by kernel_rfl, by kernel_rfl, by kernel_rfl, by kernel_rfl, by kernel_rfl, trivial⟩ (by kernel_rfl)), ?_⟩
        refine H_step 12 (by kernel_rfl) (by kernel_rfl) (fun hfz cx' hx1 hx2 => ?_)
        refine CALL 55 [.s (.ref 2), .s (.int .i64 (IntKind.i64.wrap ((v1_1.length : Int) + 2)))] (.s (.int .i64 (chooseF bits (IntKind.i64.wrap ((v1_1.length : Int) + 2))))) [] (by kernel_rfl) (goes_of (by kernel_rfl)) (by kernel_rfl) (by kernel_rfl) (fun hG nV w h => chooseF_calls (nV 2) bits (IntKind.i64.wrap ((v1_1.length : Int) + 2)) w (h.reads (id := 2) (kd := .ro) (e := 3) (by kernel_rfl)) ) ?_
        refine WPO_end (by kernel_rfl) ⟨rfl, (hfz.fnds [8, 6, 3, 0, 1, 2] (by kernel_rfl) ⟨by kernel_rfl, by kernel_rfl, by kernel_rfl, by kernel_rfl, by kernel_rfl, by kernel_rfl, trivial⟩ (by kernel_rfl)), ?_⟩
        refine H_step 13 (by kernel_rfl) (by kernel_rfl) (fun hfz cx' hx1 hx2 => ?_)
        refine CALL 55 [.s (.ref 9), .s (.int .i64 (chooseF bits (IntKind.i64.wrap ((v1_1.length : Int) + 2))))] (.s (.int .i64 (chooseF (membersF (b.loads.getD (v1_0.getD (modF (chooseF bits (v1_1.length : Int)) (v1_0.length : Int)).toNat 0).toNat zLoad).lanes 3) (chooseF bits (IntKind.i64.wrap ((v1_1.length : Int) + 2)))))) [] (by kernel_rfl) (goes_of (by kernel_rfl)) (by kernel_rfl) (by kernel_rfl) (fun hG nV w h => chooseF_calls (nV 9) (membersF (b.loads.getD (v1_0.getD (modF (chooseF bits (v1_1.length : Int)) (v1_0.length : Int)).toNat 0).toNat zLoad).lanes 3) (chooseF bits (IntKind.i64.wrap ((v1_1.length : Int) + 2))) w (h.reads (id := 9) (kd := .own) (e := 3) (by kernel_rfl)) ) ?_
        refine WPO_end (by kernel_rfl) ⟨rfl, (hfz.fnds [8, 6, 3, 0, 1, 2] (by kernel_rfl) ⟨by kernel_rfl, by kernel_rfl, by kernel_rfl, by kernel_rfl, by kernel_rfl, by kernel_rfl, trivial⟩ (by kernel_rfl)), ?_⟩
        refine H_step 14 (by kernel_rfl) (by kernel_rfl) (fun hfz cx' hx1 hx2 => ?_)
        refine CALL 44 [.s (.int .i64 (v1_0.getD (modF (chooseF bits (v1_1.length : Int)) (v1_0.length : Int)).toNat 0)), .s (.int .i64 (chooseF (membersF (b.loads.getD (v1_0.getD (modF (chooseF bits (v1_1.length : Int)) (v1_0.length : Int)).toNat 0).toNat zLoad).lanes 3) (chooseF bits (IntKind.i64.wrap ((v1_1.length : Int) + 2)))))] (.g [.int .i64 (placeL (v1_0.getD (modF (chooseF bits (v1_1.length : Int)) (v1_0.length : Int)).toNat 0) (chooseF (membersF (b.loads.getD (v1_0.getD (modF (chooseF bits (v1_1.length : Int)) (v1_0.length : Int)).toNat 0).toNat zLoad).lanes 3) (chooseF bits (IntKind.i64.wrap ((v1_1.length : Int) + 2))))).load, .int .i64 (placeL (v1_0.getD (modF (chooseF bits (v1_1.length : Int)) (v1_0.length : Int)).toNat 0) (chooseF (membersF (b.loads.getD (v1_0.getD (modF (chooseF bits (v1_1.length : Int)) (v1_0.length : Int)).toNat 0).toNat zLoad).lanes 3) (chooseF bits (IntKind.i64.wrap ((v1_1.length : Int) + 2))))).lane]) [] (by kernel_rfl) (goes_of (by kernel_rfl)) (by kernel_rfl) (by kernel_rfl) (fun hG nV w h => placeL_calls  (v1_0.getD (modF (chooseF bits (v1_1.length : Int)) (v1_0.length : Int)).toNat 0) (chooseF (membersF (b.loads.getD (v1_0.getD (modF (chooseF bits (v1_1.length : Int)) (v1_0.length : Int)).toNat 0).toNat zLoad).lanes 3) (chooseF bits (IntKind.i64.wrap ((v1_1.length : Int) + 2)))) w  ) ?_
        refine WPO_end (by kernel_rfl) ⟨rfl, (hfz.fnds [8, 6, 3, 0, 1, 2] (by kernel_rfl) ⟨by kernel_rfl, by kernel_rfl, by kernel_rfl, by kernel_rfl, by kernel_rfl, by kernel_rfl, trivial⟩ (by kernel_rfl)), ?_⟩
        refine H_step 15 (by kernel_rfl) (by kernel_rfl) (fun hfz cx' hx1 hx2 => ?_)
        refine LIT tt_ok (by kernel_rfl) ?_
        refine LITSL 10 65 1 2 [.int .i64 (placeL (v1_0.getD (modF (chooseF bits (v1_1.length : Int)) (v1_0.length : Int)).toNat 0) (chooseF (membersF (b.loads.getD (v1_0.getD (modF (chooseF bits (v1_1.length : Int)) (v1_0.length : Int)).toNat 0).toNat zLoad).lanes 3) (chooseF bits (IntKind.i64.wrap ((v1_1.length : Int) + 2))))).load, .int .i64 (placeL (v1_0.getD (modF (chooseF bits (v1_1.length : Int)) (v1_0.length : Int)).toNat 0) (chooseF (membersF (b.loads.getD (v1_0.getD (modF (chooseF bits (v1_1.length : Int)) (v1_0.length : Int)).toNat 0).toNat zLoad).lanes 3) (chooseF bits (IntKind.i64.wrap ((v1_1.length : Int) + 2))))).lane] [(placeL (v1_0.getD (modF (chooseF bits (v1_1.length : Int)) (v1_0.length : Int)).toNat 0) (chooseF (membersF (b.loads.getD (v1_0.getD (modF (chooseF bits (v1_1.length : Int)) (v1_0.length : Int)).toNat 0).toNat zLoad).lanes 3) (chooseF bits (IntKind.i64.wrap ((v1_1.length : Int) + 2)))))] encPlace zPlace (by kernel_rfl) rfl (fun _ => rfl) (fun n => rfl) ?_
        refine WPO_end (by kernel_rfl) ⟨rfl, (hfz.fnds [8, 6, 3, 0, 1, 2] (by kernel_rfl) ⟨by kernel_rfl, by kernel_rfl, by kernel_rfl, by kernel_rfl, by kernel_rfl, by kernel_rfl, trivial⟩ (by kernel_rfl)), ?_⟩
        refine H_step 16 (by kernel_rfl) (by kernel_rfl) (fun hfz cx' hx1 hx2 => ?_)
        refine APP tt_ok (.s (.ref 7)) (.s (.ref 10)) 25 65 (some 48) 2 v1_1 ([(placeL (v1_0.getD (modF (chooseF bits (v1_1.length : Int)) (v1_0.length : Int)).toNat 0) (chooseF (membersF (b.loads.getD (v1_0.getD (modF (chooseF bits (v1_1.length : Int)) (v1_0.length : Int)).toNat 0).toNat zLoad).lanes 3) (chooseF bits (IntKind.i64.wrap ((v1_1.length : Int) + 2)))))]) encPlace zPlace (by kernel_rfl) (by kernel_rfl) (by kernel_rfl) (by kernel_rfl) (.inr (.inl ⟨7, rfl, (by kernel_rfl)⟩)) (.inr ⟨10, .own, rfl, (by kernel_rfl), (by simp only [List.length_cons, List.length_nil]; omega)⟩) (by simp) (fun y => rfl) (fun y => List.all_eq_true.1 rfl) (fun i hi => (by have hby : (tyL tt 65).map (·.bytes) = some 16 := (by kernel_rfl); rw [hi] at hby; simp only [Option.map_some, Option.some.injEq] at hby; rw [hby]; simp only [List.length_append, List.length_cons, List.length_nil]; omega)) ?_
        refine WPO_end (by kernel_rfl) ⟨rfl, (hfz.fnds [8, 6, 3, 0, 1, 2] (by kernel_rfl) ⟨by kernel_rfl, by kernel_rfl, by kernel_rfl, by kernel_rfl, by kernel_rfl, by kernel_rfl, trivial⟩ (by kernel_rfl)), ?_⟩
        refine H_run tt_ok [17] (f' := 0) (by kernel_rfl) (by kernel_rfl) (by kernel_rfl) ?_
        refine H_done (by kernel_rfl) ?_
        exact ⟨(), Le_sel (ts := [7, 9, 8, 3, 2]) (ids := [11, 8, 6, 3, 0, 1, 2]) (nx := 12) (by kernel_rfl)⟩
    intro _
    refine WP_region (WPO_run tt_ok 2 (by kernel_rfl) ?_)
    refine CALLO 84 [.s (.ref 6), .s (.int .i64 (modF (chooseF bits (v1_1.length : Int)) (v1_0.length : Int)))] (.s (.ref 12)) 3 1 (droppedF v1_0 (modF (chooseF bits (v1_1.length : Int)) (v1_0.length : Int))) encI 0 12 (by kernel_rfl) (by kernel_rfl) (goes_of (by kernel_rfl)) (by kernel_rfl) (by kernel_rfl) (fun _ => rfl) ((fun nV w h => droppedF_calls (nV 6) v1_0 (modF (chooseF bits (v1_1.length : Int)) (v1_0.length : Int)) w (h.reads (id := 6) (kd := .own) (e := 3) (by kernel_rfl)) (by first | assumption | omega))) ?_
    refine WPO_all tt_ok (by kernel_rfl) ?_
    show Q1 .normal _
    exact LA_go hq1 (ci := ((k1 + 1) : Int)) ((droppedF v1_0 (modF (chooseF bits (v1_1.length : Int)) (v1_0.length : Int))), v1_1 ++ ([(placeL (v1_0.getD (modF (chooseF bits (v1_1.length : Int)) (v1_0.length : Int)).toNat 0) (chooseF (membersF (b.loads.getD (v1_0.getD (modF (chooseF bits (v1_1.length : Int)) (v1_0.length : Int)).toNat 0).toNat zLoad).lanes 3) (chooseF bits (IntKind.i64.wrap ((v1_1.length : Int) + 2)))))])) hk1 (rfl) (loopR_go hi1 hk1 hc1 (rfl)) (⟨⟨by have := dropped_len hat; simp only; omega, fun x hx => hp1.1.2 x (dropped_mem hat.1 hx)⟩, by rw [List.length_append, List.length_singleton]; omega⟩) (Le_ren [(7, 11), (6, 12)] ⟨by kernel_rfl, by kernel_rfl, by kernel_rfl, by kernel_rfl, by kernel_rfl, by kernel_rfl, trivial⟩ ⟨by kernel_rfl, rfl, by kernel_rfl, by kernel_rfl, rfl, by kernel_rfl, by kernel_rfl, rfl, by kernel_rfl, by kernel_rfl, rfl, by kernel_rfl, trivial⟩ (by kernel_rfl) (by kernel_rfl) (rnm_id (m := 3) (by kernel_rfl)) (by show 3 ≤ 8; decide) (by kernel_rfl) (by kernel_rfl))
  intro zz hR1 hP1 s' hl
  obtain ⟨u1_0, u1_1⟩ := zz
  obtain ⟨kP1, hkP1, hpP1⟩ := hP1
  replace hpP1 : (u1_0.length + kP1 = loads.length ∧ ∀ x ∈ u1_0, 0 ≤ x ∧ x < b.loads.length) ∧ u1_1.length = kP1 := hpP1
  refine WP_le hl ?_
  clear hl s'
  refine WP_seq (WP_region (WPO_all tt_ok (by kernel_rfl) ?_))
  refine WP_ret ?_
  exact ⟨.s (.ref 7), by kernel_rfl, fun nV w' h => ⟨nV 7, rfl, h.bel, by rw [show drawnL b loads bits = u1_1 from by unfold drawnL; simp only [hR1, cond_true, cond_false]]; exact own_of (z := zPlace) h (by kernel_rfl)⟩⟩
end Go.Proofs.YthfnedbpmdkdjaaDoor.D
namespace Go.Proofs.YthfnedbpmdkdjaaDoor.D
open Go Go.ChangeShapes Go.WideShapes Go.RowKit Go.Proofs.YthfnedbpmdkdjaaDoor.Eng Go.Proofs.YthfnedbpmdkdjaaDoor.Cm
set_option linter.unusedVariables false
set_option linter.unusedSimpArgs false
set_option linter.unusedSectionVars false
set_option maxRecDepth 100000
theorem app_eq {a b c d : List Value} (h : a = b) (k : c = d) : a ++ c = b ++ d := by rw [h, k]
theorem opn3 {w : World} : Opn Tryd.prog w 3 (fun cs => ∃ (b : Int), cs = [iv b] ∧ i64B b ∧ True) := (Opn_int Tryd.underlying3).mono fun cs ⟨n, h1, h2⟩ => ⟨n, h1, h2, trivial⟩
theorem opn43 {w : World} : Opn Tryd.prog w 43 (fun cs => ∃ (b : Span), cs = [iv b.lo, iv b.hi] ∧ i64B b.lo ∧ i64B b.hi ∧ True) :=
  (Opn_parts (P := Tryd.prog) (w := w) [⟨0, 3, 1, (fun cs => ∃ (b : Int), cs = [iv b] ∧ i64B b ∧ True)⟩, ⟨1, 3, 1, (fun cs => ∃ (b : Int), cs = [iv b] ∧ i64B b ∧ True)⟩] 2 Tryd.underlying43 (by kernel_rfl) (by kernel_rfl) ⟨opn3, opn3, trivial⟩).mono fun cs h => by
    obtain ⟨hl, ⟨b0, e0, f0_0, _⟩, ⟨b1, e1, f1_0, _⟩, _⟩ := h
    exact ⟨(⟨b0, b1⟩ : Span), (tl 0 1 cs).trans (app_eq e0 ((tl 1 1 cs).trans (app_eq e1 (tlz hl)))), f0_0, f1_0, trivial⟩
theorem opn61 {w : World} : Opn Tryd.prog w 61 (fun cs => ∃ (b : Load), cs = [iv b.w.lo, iv b.w.hi, iv b.lanes] ∧ i64B b.w.lo ∧ i64B b.w.hi ∧ i64B b.lanes ∧ True) :=
  (Opn_parts (P := Tryd.prog) (w := w) [⟨0, 43, 2, (fun cs => ∃ (b : Span), cs = [iv b.lo, iv b.hi] ∧ i64B b.lo ∧ i64B b.hi ∧ True)⟩, ⟨2, 3, 1, (fun cs => ∃ (b : Int), cs = [iv b] ∧ i64B b ∧ True)⟩] 3 Tryd.underlying61 (by kernel_rfl) (by kernel_rfl) ⟨opn43, opn3, trivial⟩).mono fun cs h => by
    obtain ⟨hl, ⟨b0, e0, f0_0, f0_1, _⟩, ⟨b1, e1, f1_0, _⟩, _⟩ := h
    exact ⟨(⟨b0, b1⟩ : Load), (tl 0 2 cs).trans (app_eq e0 ((tl 2 1 cs).trans (app_eq e1 (tlz hl)))), f0_0, f0_1, f1_0, trivial⟩
theorem opn22 {w : World} : Opn Tryd.prog w 22 (fun cs => ∃ (g0 : Value) (b : List Load), cs = [g0] ∧ (Reads w g0 3 b encLoad zLoad ∧ (∀ a ∈ b, i64B a.w.lo ∧ i64B a.w.hi ∧ i64B a.lanes) ∧ b.length * 24 ≤ reachBytes) ∧ True) := (Opn_slice (encA := encLoad) (z := zLoad) (ok := (fun a : Load => i64B a.w.lo ∧ i64B a.w.hi ∧ i64B a.lanes)) (sz := 3) Tryd.underlying22 (by kernel_rfl) (opn61.mono fun cs ⟨a, h1, k0, k1, k2, _⟩ => ⟨a, h1, ⟨k0, k1, k2⟩⟩)).mono fun cs ⟨v, l, h1, h2, h3, h4⟩ => ⟨v, l, h1, ⟨h2, h3, h4⟩, trivial⟩
theorem opn24 {w : World} : Opn Tryd.prog w 24 (fun cs => ∃ (g0 : Value) (b : DBook), cs = [g0, iv b.rule, iv b.most] ∧ (Reads w g0 3 b.loads encLoad zLoad ∧ (∀ a ∈ b.loads, i64B a.w.lo ∧ i64B a.w.hi ∧ i64B a.lanes) ∧ b.loads.length * 24 ≤ reachBytes) ∧ i64B b.rule ∧ i64B b.most ∧ True) :=
  (Opn_parts (P := Tryd.prog) (w := w) [⟨0, 22, 1, (fun cs => ∃ (g0 : Value) (b : List Load), cs = [g0] ∧ (Reads w g0 3 b encLoad zLoad ∧ (∀ a ∈ b, i64B a.w.lo ∧ i64B a.w.hi ∧ i64B a.lanes) ∧ b.length * 24 ≤ reachBytes) ∧ True)⟩, ⟨1, 3, 1, (fun cs => ∃ (b : Int), cs = [iv b] ∧ i64B b ∧ True)⟩, ⟨2, 3, 1, (fun cs => ∃ (b : Int), cs = [iv b] ∧ i64B b ∧ True)⟩] 3 Tryd.underlying24 (by kernel_rfl) (by kernel_rfl) ⟨opn22, opn3, opn3, trivial⟩).mono fun cs h => by
    obtain ⟨hl, ⟨p0_0, b0, e0, f0_0, _⟩, ⟨b1, e1, f1_0, _⟩, ⟨b2, e2, f2_0, _⟩, _⟩ := h
    exact ⟨p0_0, (⟨b0, b1, b2⟩ : DBook), (tl 0 1 cs).trans (app_eq e0 ((tl 1 1 cs).trans (app_eq e1 ((tl 2 1 cs).trans (app_eq e2 (tlz hl)))))), f0_0, f1_0, f2_0, trivial⟩
theorem opn33 {w : World} : Opn Tryd.prog w 33 (fun cs => ∃ (g0 : Value) (b : List Int), cs = [g0] ∧ (Reads w g0 1 b encI 0 ∧ (∀ a ∈ b, i64B a) ∧ b.length * 8 ≤ reachBytes) ∧ True) := (Opn_slice (encA := encI) (z := 0) (ok := (fun a : Int => i64B a)) (sz := 1) Tryd.underlying33 (by kernel_rfl) (opn3.mono fun cs ⟨a, h1, k0, _⟩ => ⟨a, h1, k0⟩)).mono fun cs ⟨v, l, h1, h2, h3, h4⟩ => ⟨v, l, h1, ⟨h2, h3, h4⟩, trivial⟩
theorem own : ownKnob Tryd.prog.godebug = none := by kernel_rfl
theorem laidOut : laidOutB Tryd.prog = true := by kernel_rfl
theorem gLanes : Tryd.prog.globalNamed "prow/deck.lanes" = some 0 := by kernel_rfl
theorem tLanes : (Tryd.prog.globals[0]?).map (·.type) = some 127 := by kernel_rfl
theorem gNob : Tryd.prog.globalNamed "prow/deck.nobody" = some 1 := by kernel_rfl
theorem tNob : (Tryd.prog.globals[1]?).map (·.type) = some 65 := by kernel_rfl
theorem int_of_trod {H : Type} {enc : TypeId × Value → H} {Pr : Program} {w : World} {base : Nat} {sp : Nat → Bool} {held : Bool} {fuel : Nat} {t : TypeId} {k : IntKind} {n : Int} {v : Value} {q : List MemPlace} (ht : Pr.underlying t = some (.int k)) (h : DataW.trod enc Pr w base sp held fuel t [v] = some (.lit (.int k n), q)) : v = .int k n := by
  cases fuel with
  | zero => cases h
  | succ m =>
    simp only [DataW.trod, ht] at h
    cases v <;> simp at h
    rename_i k' n'
    obtain ⟨⟨h1, h2⟩, h3⟩ := h
    first | (obtain ⟨h4, _⟩ := h3; subst h1; rw [h4]) | (subst h1; simp_all)
theorem deck_of {W : World} (hS : W.ShapedOpen Tryd.prog) (h : laidMetH Tryd.prog [("prow/deck.lanes", Rows.laid_prow_deck_lanes), ("prow/deck.nobody", Rows.laid_prow_deck_nobody)] W) : NobodyAt W ∧ LanesAt W := by
  constructor
  · have h1 : laidMet Tryd.prog [("prow/deck.nobody", Rows.laid_prow_deck_nobody)] W := by
      have h2 : laidMet Tryd.prog [("prow/deck.nobody", Rows.laid_prow_deck_nobody)] W ∧ handlesMet Tryd.prog [("prow/deck.lanes", Rows.laid_prow_deck_lanes)] W := h
      exact h2.1
    obtain ⟨ps, ⟨g, t, cs, fuel, p, q, hg, ht, hv, hd, _⟩, _⟩ := h1
    obtain rfl := Option.some.inj (gNob.symm.trans hg)
    obtain rfl := Option.some.inj (tNob.symm.trans ht)
    obtain ⟨c, hc, hsz, _⟩ := hS.1 1 #[.int .i64 0, .int .i64 0] 65 (Nat.le_of_ble_eq_true (by kernel_rfl)) (by kernel_rfl)
    have hcs : ∀ i : Nat, W.cell? ⟨1, i, none⟩ = cs[i]? := fun i => World.var?_cell hg hv i
    have hcc : ∀ i : Nat, W.cell? ⟨1, i, none⟩ = c[i]? := fun i => cell_of_row W 1 _ _ _ _ hc
    have hd' : DataW.trod (fun _ => ()) Tryd.prog W 0 (fun _ => true) false fuel 65 cs.toList = some (.agg [.lit (.int .i64 (-1)), .lit (.int .i64 0)], p) := hd
    cases fuel with
    | zero => cases hd'
    | succ n =>
      simp only [DataW.trod, Tryd.underlying65] at hd'
      split at hd'
      · rename_i hl
        obtain ⟨xs, hxs, he⟩ := Option.map_eq_some_iff.1 hd'
        have hl2 : cs.toList.length = 2 := hl.trans (by kernel_rfl)
        have hk : Tryd.prog.cellsOf 3 = 1 := by kernel_rfl
        simp only [Prod.mk.injEq, DataW.agg.injEq] at he
        obtain ⟨y0, hy0, hx0⟩ := mapM_get hxs 0 _ rfl
        obtain ⟨y1, hy1, hx1⟩ := mapM_get hxs 1 _ rfl
        have h0 : y0.1 = .lit (.int .i64 (-1)) := by
          have := congrArg (fun l => l[0]?) he.1
          simp only [List.getElem?_map, hx0, Option.map_some] at this
          exact Option.some.inj this
        have h1 : y1.1 = .lit (.int .i64 0) := by
          have := congrArg (fun l => l[1]?) he.1
          simp only [List.getElem?_map, hx1, Option.map_some] at this
          exact Option.some.inj this
        simp only [hk] at hy0 hy1
        match hcl : cs.toList, hl2 with
        | [u0, u1], _ =>
          rw [hcl] at hy0 hy1
          have hu0 : DataW.trod (fun _ => ()) Tryd.prog W 0 (fun _ => true) false n 3 [u0] = some (.lit (.int .i64 (-1)), y0.2) := by rw [← h0]; exact hy0
          have hu1 : DataW.trod (fun _ => ()) Tryd.prog W 0 (fun _ => true) false n 3 [u1] = some (.lit (.int .i64 0), y1.2) := by rw [← h1]; exact hy1
          obtain rfl := int_of_trod Tryd.underlying3 hu0
          obtain rfl := int_of_trod Tryd.underlying3 hu1
          unfold NobodyAt
          rw [hc]
          have e0 := hcc 0
          have e1 := hcc 1
          rw [hcs 0, ← Array.getElem?_toList, hcl] at e0
          rw [hcs 1, ← Array.getElem?_toList, hcl] at e1
          have : c = #[iv (-1), iv 0] := by
            have hs2 : c.size = 2 := hsz
            apply Array.ext
            · rw [hs2]; rfl
            · intro i h1 h2
              rw [hs2] at h1
              have : i = 0 ∨ i = 1 := by omega
              rcases this with rfl | rfl
              · have := e0.symm; rw [Array.getElem?_eq_getElem (by omega)] at this; exact Option.some.inj this
              · have := e1.symm; rw [Array.getElem?_eq_getElem (by omega)] at this; exact Option.some.inj this
          rw [this]
      · cases hd'
  · obtain ⟨g, t, cs, fuel, p, hg, ht, hv, hd⟩ := h.funcs List.mem_cons_self
    obtain rfl := Option.some.inj (gLanes.symm.trans hg)
    obtain rfl := Option.some.inj (tLanes.symm.trans ht)
    obtain ⟨c, hc, hsz, _⟩ := hS.1 0 #[.nilFunc, .nilFunc, .nilFunc] 127 (Nat.le_of_ble_eq_true (by kernel_rfl)) (by kernel_rfl)
    have hcs : ∀ i : Nat, W.cell? ⟨0, i, none⟩ = cs[i]? := fun i => World.var?_cell hg hv i
    have hcc : ∀ i : Nat, W.cell? ⟨0, i, none⟩ = c[i]? := fun i => cell_of_row W 0 _ _ _ _ hc
    have hd' : DataW.trod (funcToken Tryd.prog) Tryd.prog W 0 (fun _ => true) true fuel 127 cs.toList = some (.agg [.held [40, 112, 114, 111, 119, 47, 100, 101, 99, 107, 46, 108, 105, 115, 116, 41, 46, 112, 111, 114, 116], .held [40, 112, 114, 111, 119, 47, 100, 101, 99, 107, 46, 108, 105, 115, 116, 41, 46, 109, 105, 100, 100, 108, 101], .held [40, 112, 114, 111, 119, 47, 100, 101, 99, 107, 46, 108, 105, 115, 116, 41, 46, 115, 116, 97, 114]], p) := hd
    cases fuel with
    | zero => cases hd'
    | succ n =>
      simp only [DataW.trod, Tryd.underlying127] at hd'
      split at hd'
      · rename_i hl
        obtain ⟨xs, hxs, he⟩ := Option.map_eq_some_iff.1 hd'
        have hl2 : cs.toList.length = 3 := hl.trans (by kernel_rfl)
        have hk : Tryd.prog.cellsOf 126 = 1 := by kernel_rfl
        simp only [Prod.mk.injEq, DataW.agg.injEq] at he
        obtain ⟨y0, hy0, hx0⟩ := mapM_get hxs 0 0 rfl
        obtain ⟨y1, hy1, hx1⟩ := mapM_get hxs 1 1 rfl
        obtain ⟨y2, hy2, hx2⟩ := mapM_get hxs 2 2 rfl
        have h0 : y0.1 = .held [40, 112, 114, 111, 119, 47, 100, 101, 99, 107, 46, 108, 105, 115, 116, 41, 46, 112, 111, 114, 116] := by
          have := congrArg (fun l => l[0]?) he.1
          simp only [List.getElem?_map, hx0, Option.map_some] at this
          exact Option.some.inj this
        have h1 : y1.1 = .held [40, 112, 114, 111, 119, 47, 100, 101, 99, 107, 46, 108, 105, 115, 116, 41, 46, 109, 105, 100, 100, 108, 101] := by
          have := congrArg (fun l => l[1]?) he.1
          simp only [List.getElem?_map, hx1, Option.map_some] at this
          exact Option.some.inj this
        have h2 : y2.1 = .held [40, 112, 114, 111, 119, 47, 100, 101, 99, 107, 46, 108, 105, 115, 116, 41, 46, 115, 116, 97, 114] := by
          have := congrArg (fun l => l[2]?) he.1
          simp only [List.getElem?_map, hx2, Option.map_some] at this
          exact Option.some.inj this
        rw [hk] at hy0 hy1 hy2
        match hcl : cs.toList, hl2 with
        | [u0, u1, u2], _ =>
          rw [hcl] at hy0 hy1 hy2
          have hu0 : DataW.trod (funcToken Tryd.prog) Tryd.prog W 0 (fun _ => true) true n 126 [u0] = some (.held [40, 112, 114, 111, 119, 47, 100, 101, 99, 107, 46, 108, 105, 115, 116, 41, 46, 112, 111, 114, 116], y0.2) := by rw [← h0]; exact hy0
          have hu1 : DataW.trod (funcToken Tryd.prog) Tryd.prog W 0 (fun _ => true) true n 126 [u1] = some (.held [40, 112, 114, 111, 119, 47, 100, 101, 99, 107, 46, 108, 105, 115, 116, 41, 46, 109, 105, 100, 100, 108, 101], y1.2) := by rw [← h1]; exact hy1
          have hu2 : DataW.trod (funcToken Tryd.prog) Tryd.prog W 0 (fun _ => true) true n 126 [u2] = some (.held [40, 112, 114, 111, 119, 47, 100, 101, 99, 107, 46, 108, 105, 115, 116, 41, 46, 115, 116, 97, 114], y2.2) := by rw [← h2]; exact hy2
          obtain rfl := Go.func_of_trod (f0 := 147) Tryd.underlying126 (by kernel_rfl) hu0
          obtain rfl := Go.func_of_trod (f0 := 145) Tryd.underlying126 (by kernel_rfl) hu1
          obtain rfl := Go.func_of_trod (f0 := 148) Tryd.underlying126 (by kernel_rfl) hu2
          unfold LanesAt
          rw [hc]
          have e0 := hcc 0
          have e1 := hcc 1
          have e2 := hcc 2
          rw [hcs 0, ← Array.getElem?_toList, hcl] at e0
          rw [hcs 1, ← Array.getElem?_toList, hcl] at e1
          rw [hcs 2, ← Array.getElem?_toList, hcl] at e2
          have : c = #[.func (.func 147) #[] #[], .func (.func 145) #[] #[], .func (.func 148) #[] #[]] := by
            have hs2 : c.size = 3 := hsz
            apply Array.ext
            · rw [hs2]; rfl
            · intro i h1 h2
              rw [hs2] at h1
              have : i = 0 ∨ i = 1 ∨ i = 2 := by omega
              rcases this with rfl | rfl | rfl
              · have := e0.symm; rw [Array.getElem?_eq_getElem (by omega)] at this; exact Option.some.inj this
              · have := e1.symm; rw [Array.getElem?_eq_getElem (by omega)] at this; exact Option.some.inj this
              · have := e2.symm; rw [Array.getElem?_eq_getElem (by omega)] at this; exact Option.some.inj this
          rw [this]
      · cases hd'
end Go.Proofs.YthfnedbpmdkdjaaDoor.D
namespace Go.Proofs.YthfnedbpmdkdjaaDoor.D
open Go Go.RowKit Go.Proofs.YthfnedbpmdkdjaaDoor.Eng Go.Proofs.YthfnedbpmdkdjaaDoor.Cm
set_option linter.unusedVariables false
set_option linter.unusedSimpArgs false
set_option linter.unusedSectionVars false
theorem sound_eq (b : DBook) : soundL b = ((((((checkD b) == 0) && (insideF (b.loads.length : Int) 1 5)) && (insideF b.rule 0 30)) && (insideF b.most 1 200)) && (List.range b.loads.length).all fun k => (validF (b.loads.getD k zLoad).w 1 60) && (insideF (b.loads.getD k zLoad).lanes 1 7)) := by
  unfold soundL
  rw [loopR_all (fun k => (validF (b.loads.getD k zLoad).w 1 60) && (insideF (b.loads.getD k zLoad).lanes 1 7)) (fun k v hk => by simp only [soundL_c1]; rw [decide_eq_true (by omega), Bool.and_true]) (fun k hk => rfl)]
theorem sound_iff {b : DBook} : soundL b = true ↔ ValidD b := by
  rw [sound_eq]
  simp only [Bool.and_eq_true, List.all_eq_true, List.mem_range, beq_iff_eq]
  constructor
  · rintro ⟨⟨⟨⟨h, _⟩, _⟩, _⟩, _⟩
    exact checkD_valid.1 h
  · intro h
    refine ⟨⟨⟨⟨checkD_valid.2 h, ?_⟩, ?_⟩, ?_⟩, fun k hk => ?_⟩
    · have := h.n; simp only [insideF, Bool.and_eq_true, decide_eq_true_eq]; omega
    · have := h.rule; simp only [insideF, Bool.and_eq_true, decide_eq_true_eq]; omega
    · have := h.most; simp only [insideF, Bool.and_eq_true, decide_eq_true_eq]; omega
    · have := h.load hk
      simp only [insideF, validF, Bool.and_eq_true, decide_eq_true_eq]; omega
theorem sound_valid {b : DBook} (h : (!(soundL b)) = false) : ValidD b := sound_iff.1 (by simpa using h)
theorem members_eq (s : Int) (n : Nat) : membersF s (n : Int) = ((List.range n).filter fun k : Nat => memberF s k).map fun k : Nat => (k : Int) := by
  unfold membersF
  rw [show (n : Int).toNat = n by omega, loopR_app (fun k : Nat => bif memberF s k then [(k : Int)] else []) (fun k v hk => by simp only [membersF_c1]; rw [decide_eq_true]; omega) (fun k v hk => by
    simp only [membersF_b1]
    cases memberF s (k : Int) <;> simp)]
  simp only [List.nil_append]
  induction List.range n with
  | nil => rfl
  | cons x r ih =>
    rw [List.flatMap_cons, ih, List.filter_cons]
    cases memberF s (x : Int) <;> simp
theorem listed_eq (b : DBook) (s : Int) : listedD b s = membersF s (b.loads.length : Int) := by
  rw [members_eq]
  unfold listedD
  rw [loopR_app (fun k : Nat => bif memberF s k then [(k : Int)] else []) (fun k v hk => by simp only [listedD_c1]; rw [decide_eq_true]; omega) (fun k v hk => by
    simp only [listedD_b1, memberF]
    cases IntKind.i64.wrap (BitVec.ofInt IntKind.i64.bits (s.fdiv (2 ^ min (k : Int).toNat IntKind.i64.bits)) &&& BitVec.ofInt IntKind.i64.bits 1).toNat == 1 <;> simp)]
  simp only [List.nil_append]
  induction List.range b.loads.length with
  | nil => rfl
  | cons x r ih =>
    rw [List.flatMap_cons, ih, List.filter_cons]
    cases memberF s (x : Int) <;> simp
theorem members_mem {s : Int} {n : Nat} {x : Int} : x ∈ membersF s (n : Int) ↔ 0 ≤ x ∧ x < n ∧ memberF s x = true := by
  rw [members_eq]
  simp only [List.mem_map, List.mem_filter, List.mem_range]
  constructor
  · rintro ⟨k, ⟨h1, h2⟩, rfl⟩
    exact ⟨by omega, by omega, h2⟩
  · rintro ⟨h1, h2, h3⟩
    exact ⟨x.toNat, ⟨by omega, by rw [show ((x.toNat : Nat) : Int) = x by omega]; exact h3⟩, by omega⟩
theorem members_len (s : Int) (n : Nat) : (membersF s (n : Int)).length ≤ n := by
  rw [members_eq, List.length_map]
  exact Nat.le_trans (List.length_filter_le _ _) (by simp)
theorem chosen_mem {b : DBook} {n x : Int} (h : x ∈ chosenL b n) : 0 ≤ x ∧ x < b.loads.length := by
  unfold chosenL at h
  have := members_mem.1 h
  exact ⟨this.1, this.2.1⟩
theorem chosen_len (b : DBook) (n : Int) : (chosenL b n).length ≤ b.loads.length := members_len _ _
theorem erase_perm : ∀ (l : List Int) (i : Nat) (h : i < l.length), (l[i] :: l.eraseIdx i).Perm l
  | x :: r, 0, h => List.Perm.refl _
  | x :: r, i + 1, h => by
    simp only [List.getElem_cons_succ, List.eraseIdx_cons_succ]
    exact (List.Perm.swap _ _ _).trans ((erase_perm r i (by simpa using h)).cons x)
theorem drawn_spec {b : DBook} {loads bits : List Int} (hll : loads.length ≤ 5) : ((drawnL b loads bits).map (·.load)).Perm loads ∧ ∀ x ∈ drawnL b loads bits, ∃ q, x.lane = chooseF (membersF (b.loads.getD x.load.toNat zLoad).lanes 3) q := by
  have hk := loopR_keep (c := drawnL_c1 b loads bits) (b := drawnL_b1 b loads bits) (N := loads.length) (fun k v => v.1.length + k = loads.length ∧ (v.2.map (·.load) ++ v.1).Perm loads ∧ ∀ x ∈ v.2, ∃ q, x.lane = chooseF (membersF (b.loads.getD x.load.toNat zLoad).lanes 3) q) (fun _ => False) (fun k v hk hp => by
    obtain ⟨v1, v2⟩ := v
    have h1 : v1.length + k = loads.length := hp.1
    simp only [drawnL_c1]; rw [decide_eq_true]; omega) (fun k v hk hp => by
    obtain ⟨v1, v2⟩ := v
    have h1 : v1.length + k = loads.length := hp.1
    have hat := modF_in (chooseF bits (v2.length : Int)) (v1.length : Int) (by omega) (by omega)
    refine .inl ⟨_, rfl, by have := dropped_len hat; simp only; omega, ?_, fun x hx => ?_⟩
    · have h2 : (v2.map (·.load) ++ v1).Perm loads := hp.2.1
      refine List.Perm.trans ?_ h2
      simp only [List.map_append, List.map_cons, List.map_nil, List.append_assoc]
      refine List.Perm.append_left _ ?_
      rw [dropped_eq hat.1]
      simp only [placeL, List.singleton_append]
      have hlt : (modF (chooseF bits (v2.length : Int)) (v1.length : Int)).toNat < v1.length := by omega
      rw [List.getD_eq_getElem?_getD, List.getElem?_eq_getElem hlt]
      exact erase_perm v1 _ hlt
    · rcases List.mem_append.1 hx with hx | hx
      · exact hp.2.2 x hx
      · rw [List.mem_singleton.1 hx]
        exact ⟨_, rfl⟩) (([] : List Int) ++ loads, []) ⟨by simp, by simp, fun x hx => by cases hx⟩
  unfold drawnL
  rcases hk with ⟨v, e, h⟩ | ⟨r, e, h⟩
  · rw [e]
    have h0 : v.1 = [] := List.length_eq_zero_iff.1 (by have := h.1; omega)
    have h2 := h.2.1
    rw [h0, List.append_nil] at h2
    exact ⟨h2, h.2.2⟩
  · exact h.elim
theorem drawn_mem {b : DBook} {loads bits : List Int} (hll : loads.length ≤ 5) (hl : ∀ x ∈ loads, 0 ≤ x ∧ x < b.loads.length) : ∀ x ∈ drawnL b loads bits, 0 ≤ x.load ∧ x.load < b.loads.length := fun x hx =>
  hl _ ((drawn_spec hll).1.mem_iff.1 (List.mem_map.2 ⟨x, hx, rfl⟩))
theorem drawn_len {b : DBook} {loads bits : List Int} (hll : loads.length ≤ 5) : (drawnL b loads bits).length = loads.length := by
  have := (drawn_spec (b := b) (bits := bits) hll).1.length_eq
  rwa [List.length_map] at this
theorem pow_small {n : Nat} (h : n ≤ 5) : IntKind.i64.wrap (1 * 2 ^ (min (n : Int).toNat IntKind.i64.bits)) = ((2 ^ n : Nat) : Int) := by
  have : n = 0 ∨ n = 1 ∨ n = 2 ∨ n = 3 ∨ n = 4 ∨ n = 5 := by omega
  rcases this with rfl | rfl | rfl | rfl | rfl | rfl <;> decide
def someD (b : DBook) : Int := (List.range (2 ^ b.loads.length)).foldl (fun (v : Int) (k : Nat) => bif (togetherD b (k : Int)) then IntKind.i64.wrap (BitVec.ofInt IntKind.i64.bits v ||| BitVec.ofInt IntKind.i64.bits (k : Int)).toNat else v) 0
theorem never_eq {b : DBook} (h : checkD b = 0) : neverA b = (listedD b (IntKind.i64.wrap (BitVec.ofInt IntKind.i64.bits (allD b) &&& ~~~(BitVec.ofInt IntKind.i64.bits (someD b))).toNat), 0) := by
  have hv := checkD_valid.1 h
  unfold neverA
  rw [h]
  simp only [bne_self_eq_false, cond_false]
  rw [loopR_foldl (c := neverA_c1 b) (b := neverA_b1 b) (fun (k : Nat) (v : Int) => bif (togetherD b (k : Int)) then IntKind.i64.wrap (BitVec.ofInt IntKind.i64.bits v ||| BitVec.ofInt IntKind.i64.bits (k : Int)).toNat else v) (fun k v hk => by simp only [neverA_c1]; rw [all_wrap hv.n.2, decide_eq_true]; omega) (fun k v hk => rfl)]
  rfl
theorem truly_len (b : DBook) (bits : List Int) : (trulyL b bits).length = b.loads.length := by
  unfold trulyL
  rw [loopR_app (c := trulyL_c1 b bits) (b := trulyL_b1 b bits) (fun k : Nat => [(withF (b.loads.getD k zLoad).w (IntKind.i64.wrap ((chooseF bits (k : Int)) + (chooseF bits (IntKind.i64.wrap ((k : Int) + 1))))))]) (fun k v hk => by simp only [trulyL_c1]; rw [decide_eq_true]; omega) (fun k v hk => rfl)]
  rw [List.nil_append, ← List.map_eq_flatMap]
  simp
end Go.Proofs.YthfnedbpmdkdjaaDoor.D
namespace Go.Proofs.YthfnedbpmdkdjaaDoor.D
open Go Go.RowKit Go.Proofs.YthfnedbpmdkdjaaDoor.Eng Go.Proofs.YthfnedbpmdkdjaaDoor.Cm
set_option linter.unusedVariables false
set_option linter.unusedSimpArgs false
set_option linter.unusedSectionVars false
def orI (s x : Int) : Int := IntKind.i64.wrap (BitVec.ofInt IntKind.i64.bits s ||| BitVec.ofInt IntKind.i64.bits (IntKind.i64.wrap (1 * 2 ^ (min x.toNat IntKind.i64.bits)))).toNat
def M (n s : Nat) : List Int := membersF (s : Int) (n : Int)
def all6 (p : Nat → Nat → Bool) : Bool := (List.range 6).all fun n => (List.range (2 ^ n)).all fun s => p n s
theorem all6_spec {p : Nat → Nat → Bool} (h : all6 p = true) {n s : Nat} (hn : n ≤ 5) (hs : s < 2 ^ n) : p n s = true :=
  List.all_eq_true.1 (List.all_eq_true.1 h n (List.mem_range.2 (by omega))) s (List.mem_range.2 hs)
theorem lift_all : all6 (fun n s => M n s == M 5 s) = true := by kernel_rfl
theorem pow_lt {n s : Nat} (hn : n ≤ 5) (hs : s < 2 ^ n) : s < 32 := by
  have := pow_le5 hn; omega
theorem lift {n s : Nat} (hn : n ≤ 5) (hs : s < 2 ^ n) : M n s = M 5 s := eq_of_beq (all6_spec lift_all hn hs)
structure Climb (n : Nat) (l : List Int) : Prop where
  rng : ∀ x ∈ l, 0 ≤ x ∧ x < n
  up : l.Pairwise (· < ·)
theorem M_climb (n s : Nat) : Climb n (M n s) := by
  refine ⟨fun x hx => ?_, ?_⟩
  · have := members_mem.1 hx
    exact ⟨this.1, this.2.1⟩
  · unfold M
    rw [members_eq]
    rw [List.pairwise_map]
    exact (List.pairwise_lt_range.filter _).imp fun h => by omega
theorem chosen_M {b : DBook} (hv : ValidD b) (n : Int) : ∃ s, s < 2 ^ b.loads.length ∧ chosenL b n = M b.loads.length s := by
  have hp := pow_small hv.n.2
  have hpos : 0 < 2 ^ b.loads.length := Nat.pow_pos (by decide)
  have hpl := pow_le5 hv.n.2
  have hm := modF_in n ((2 ^ b.loads.length : Nat) : Int) (by omega) (by omega)
  refine ⟨(modF n ((2 ^ b.loads.length : Nat) : Int)).toNat, by omega, ?_⟩
  unfold chosenL M
  rw [hp, show (((modF n ((2 ^ b.loads.length : Nat) : Int)).toNat : Nat) : Int) = modF n ((2 ^ b.loads.length : Nat) : Int) by omega]
theorem mostA_ok {b : DBook} (hv : ValidD b) : mostA b = (mostD b, 0) := by
  unfold mostA
  rw [checkD_valid.2 hv]; rfl
end Go.Proofs.YthfnedbpmdkdjaaDoor.D
namespace Go.Proofs.YthfnedbpmdkdjaaDoor.D
open Go Go.RowKit Go.Proofs.YthfnedbpmdkdjaaDoor.Eng Go.Proofs.YthfnedbpmdkdjaaDoor.Cm
set_option linter.unusedVariables false
set_option linter.unusedSimpArgs false
set_option linter.unusedSectionVars false
theorem loopR_some {ρ : Type} {N : Nat} {b : Nat → Unit → Bd Unit ρ} {c : Nat → Unit → Bool} (g : Nat → Option ρ) (hc : ∀ k, k < N → c k () = true) (hb : ∀ k, k < N → b k () = match g k with | some r => .ret r | none => .go ()) : loopR c b N 0 () = match (List.range N).findSome? g with | some r => .ret r | none => .brk () := by
  have key : ∀ (m k : Nat), k + m = N → loopR c b (N - k) k () = (match (List.range' k m).findSome? g with | some r => .ret r | none => .brk ()) := by
    intro m
    induction m with
    | zero => intro k h; rw [show N - k = 0 by omega]; rfl
    | succ m ih =>
      intro k h
      rw [loopR_step (by omega) (hc k (by omega)), hb k (by omega), List.range'_succ, List.findSome?_cons]
      cases hg : g k with
      | some r => rfl
      | none => exact ih (k + 1) (by omega)
  rw [List.range_eq_range']
  exact key N 0 (by omega)
theorem range_first {β : Type} (f : Nat → Option β) (n : Nat) : (∃ a r, a < n ∧ f a = some r ∧ (∀ j, j < a → f j = none) ∧ (List.range n).findSome? f = some r) ∨ ((∀ j, j < n → f j = none) ∧ (List.range n).findSome? f = none) := by
  induction n with
  | zero => exact .inr ⟨fun j h => by omega, rfl⟩
  | succ n ih =>
    rw [List.range_succ, List.findSome?_append]
    rcases ih with ⟨a, r, h1, h2, h3, h4⟩ | ⟨h1, h2⟩
    · exact .inl ⟨a, r, by omega, h2, h3, by rw [h4]; rfl⟩
    · rw [h2]
      cases hf : f n with
      | some r => exact .inl ⟨n, r, by omega, hf, h1, by simp [hf]⟩
      | none => exact .inr ⟨fun j hj => by
          by_cases e : j = n
          · rw [e]; exact hf
          · exact h1 j (by omega), by simp [hf]⟩
def okP (b : DBook) (l : Span) (k q : Nat) : Bool := isPl b k q && !decide (levelD b (laneF (q : Int) l (b.loads.getD k zLoad).w) < 2)
def nextP (b : DBook) (F : List Place → Span → Int → List Place × Bool) (on : List Place) (l : Span) (left : Int) (k q : Nat) : List Place × Bool := F (on ++ [(⟨(k : Int), (q : Int)⟩ : Place)]) (laneF (q : Int) l (b.loads.getD k zLoad).w) (offI left k)
def g2 (b : DBook) (F : List Place → Span → Int → List Place × Bool) (on : List Place) (l : Span) (left : Int) (k q : Nat) : Option (List Place × Bool) := bif okP b l k q && (nextP b F on l left k q).2 then some ((nextP b F on l left k q).1, true) else none
def g1 (b : DBook) (F : List Place → Span → Int → List Place × Bool) (on : List Place) (l : Span) (left : Int) (k : Nat) : Option (List Place × Bool) := if (bitI left k == 0) = true then none else (List.range 3).findSome? (g2 b F on l left k)
theorem driveS_eq (b : DBook) (F : List Place → Span → Int → List Place × Bool) (on : List Place) (l : Span) (left : Int) : driveS b F on l left = if left = 0 then (on, true) else ((List.range b.loads.length).findSome? (g1 b F on l left)).getD ([], false) := by
  have hcut : cut on 0 (on.length : Int) = on := by simp [cut]
  have hin : ∀ k : Nat, loopR (driveS_c2 b F on l left k) (driveS_b2 b F on l left k) 3 0 () = match (List.range 3).findSome? (g2 b F on l left k) with | some r => .ret r | none => .brk () := fun k => by
    refine (loopR_some (N := 3) (c := driveS_c2 b F on l left k) (b := driveS_b2 b F on l left k) (g2 b F on l left k) (fun q hq => by simp only [driveS_c2]; rw [decide_eq_true]; omega) (fun q hq => by
      simp only [driveS_b2, hcut, g2, okP, nextP, atP_eq, offI]
      cases isPl b (k : Int) (q : Int) with
      | false => rfl
      | true =>
        cases decide (levelD b (laneF (q : Int) l (b.loads.getD k zLoad).w) < 2) with
        | true => rfl
        | false =>
          simp only [Bool.not_true, Bool.or_self, cond_false, Bool.not_false, Bool.and_self, Bool.true_and]
          generalize F (on ++ [(⟨(k : Int), (q : Int)⟩ : Place)]) (laneF (q : Int) l (b.loads.getD k zLoad).w) _ = z
          obtain ⟨z1, z2⟩ := z
          cases z2 <;> rfl)).trans ?_
    cases (List.range 3).findSome? (g2 b F on l left k) <;> rfl
  unfold driveS
  by_cases h0 : left = 0
  · rw [if_pos h0, h0]; rfl
  · rw [if_neg h0, show (left == 0) = false from beq_eq_false_iff_ne.2 h0, cond_false]
    rw [loopR_some (c := driveS_c1 b F on l left) (b := driveS_b1 b F on l left) (g1 b F on l left) (fun k hk => by simp only [driveS_c1]; rw [decide_eq_true]; omega) (fun k hk => by
      simp only [driveS_b1, g1, hin k]
      show (bif bitI left k == 0 then _ else _) = _
      cases bitI left k == 0 with
      | true => simp
      | false =>
        simp only [cond_false, Bool.false_eq_true, if_false]
        cases (List.range 3).findSome? (g2 b F on l left k) <;> rfl)]
    cases (List.range b.loads.length).findSome? (g1 b F on l left) <;> rfl
def Good (b : DBook) : Span → Int → List Place → Prop
  | _, left, [] => left = 0
  | l, left, x :: xs => ∃ k q : Nat, x = ⟨(k : Int), (q : Int)⟩ ∧ k < b.loads.length ∧ q < 3 ∧ (bitI left k == 0) = false ∧ okP b l k q = true ∧ Good b (laneF (q : Int) l (b.loads.getD k zLoad).w) (offI left k) xs
def SoonP : List Place → List Place → Prop
  | x :: xs, y :: ys => (x.load < y.load ∨ (x.load = y.load ∧ x.lane < y.lane)) ∨ (x = y ∧ SoonP xs ys)
  | _, _ => False
theorem card0_all : ((List.range 32).all fun s : Nat => !(cardI s == 0) || s == 0) = true := by kernel_rfl
theorem card0 {left : Int} (h : LeftOk 0 left) : left = 0 := by
  have h1 := List.all_eq_true.1 card0_all left.toNat (List.mem_range.2 (by have := h.1; omega))
  have h2 := h.1
  rw [show ((left.toNat : Nat) : Int) = left by omega, show cardI left = 0 by have := h.2; omega] at h1
  simp only [beq_self_eq_true, Bool.not_true, Bool.false_or, beq_iff_eq] at h1
  omega
theorem bit0_all : ((List.range 5).all fun k : Nat => bitI 0 k == 0) = true := by kernel_rfl
theorem good_zero {b : DBook} (hb5 : b.loads.length ≤ 5) {l : Span} {ys : List Place} (h : Good b l 0 ys) : ys = [] := by
  cases ys with
  | nil => rfl
  | cons y ys =>
    obtain ⟨k, q, _, hk, _, hb, _⟩ := h
    have := List.all_eq_true.1 bit0_all k (List.mem_range.2 (by omega))
    rw [this] at hb; cases hb
def Found (b : DBook) (on : List Place) (l : Span) (left : Int) (o : List Place × Bool) : Prop := (∃ xs, o = (on ++ xs, true) ∧ Good b l left xs ∧ ∀ ys, Good b l left ys → ¬ SoonP ys xs) ∨ (o = ([], false) ∧ ∀ ys, ¬ Good b l left ys)
theorem found_zero {b : DBook} (hb5 : b.loads.length ≤ 5) (on : List Place) (l : Span) : Found b on l 0 (on, true) :=
  .inl ⟨[], by simp, rfl, fun ys hy hs => by rw [good_zero hb5 hy] at hs; exact hs⟩
theorem found_step {b : DBook} (hb5 : b.loads.length ≤ 5) {F : List Place → Span → Int → List Place × Bool} {on : List Place} {l : Span} {left : Int} (hl : 0 ≤ left ∧ left < 32) (hF : ∀ k q : Nat, k < b.loads.length → (bitI left k == 0) = false → Found b (on ++ [(⟨(k : Int), (q : Int)⟩ : Place)]) (laneF (q : Int) l (b.loads.getD k zLoad).w) (offI left k) (nextP b F on l left k q)) : Found b on l left (driveS b F on l left) := by
  rw [driveS_eq]
  by_cases h0 : left = 0
  · rw [if_pos h0, h0]; exact found_zero hb5 on l
  · rw [if_neg h0]
    -- a place that is not taken goes no further
    have hno : ∀ k q : Nat, k < b.loads.length → (bitI left k == 0) = false → g2 b F on l left k q = none → okP b l k q = true → ∀ ys, ¬ Good b (laneF (q : Int) l (b.loads.getD k zLoad).w) (offI left k) ys := fun k q hk hb hg ho => by
      unfold g2 at hg
      have h1 : ¬ (okP b l k q = true ∧ (nextP b F on l left k q).2 = true) := fun h => by rw [h.1, h.2] at hg; cases hg
      rcases hF k q hk hb with ⟨xs, e, _⟩ | ⟨e, h⟩
      · exact absurd ⟨ho, by rw [e]⟩ h1
      · exact h
    rcases range_first (g1 b F on l left) b.loads.length with ⟨k, r, hk, hr, hbef, hfs⟩ | ⟨hnone, hfs⟩
    · rw [hfs, Option.getD_some]
      unfold g1 at hr
      by_cases hb : (bitI left k == 0) = true
      · rw [if_pos hb] at hr; cases hr
      · rw [if_neg hb] at hr
        have hb' : (bitI left k == 0) = false := by simpa using hb
        rcases range_first (g2 b F on l left k) 3 with ⟨q, r2, hq, hr2, hbef2, hfs2⟩ | ⟨_, hfs2⟩
        · rw [hfs2] at hr
          cases hr
          have hg := hr2
          unfold g2 at hg
          by_cases hc : okP b l k q = true ∧ (nextP b F on l left k q).2 = true
          · rw [hc.1, hc.2] at hg
            simp only [Bool.and_self, cond_true, Option.some.injEq] at hg
            subst hg
            rcases hF k q hk hb' with ⟨xs, e, hG, hS⟩ | ⟨e, _⟩
            · refine .inl ⟨⟨(k : Int), (q : Int)⟩ :: xs, by rw [e]; simp, ⟨k, q, rfl, hk, hq, hb', hc.1, hG⟩, fun ys hy hs => ?_⟩
              cases ys with
              | nil => exact hs
              | cons y ys =>
                obtain ⟨k', q', rfl, hk', hq', hbk', ho', hG'⟩ := hy
                rcases hs with hs | ⟨heq, hs⟩
                · simp only at hs
                  by_cases hkk : k' < k
                  · have h1 := hbef k' hkk
                    unfold g1 at h1
                    rw [hbk'] at h1
                    simp only [Bool.false_eq_true, if_false] at h1
                    exact hno k' q' hk' hbk' (List.findSome?_eq_none_iff.1 h1 q' (List.mem_range.2 hq')) ho' _ hG'
                  · have e1 : k' = k := by omega
                    subst e1
                    have h2 := hbef2 q' (by omega)
                    exact hno k' q' hk' hbk' h2 ho' _ hG'
                · simp only [Place.mk.injEq] at heq
                  obtain ⟨h1, h2⟩ := heq
                  have e1 : k' = k := by omega
                  have e2 : q' = q := by omega
                  subst e1 e2
                  exact hS _ hG' hs
            · have := hc.2
              rw [e] at this; cases this
          · have : (okP b l k q && (nextP b F on l left k q).2) = false := by
              cases h1 : okP b l k q with
              | false => rfl
              | true => cases h2 : (nextP b F on l left k q).2 with
                | false => rfl
                | true => exact absurd ⟨h1, h2⟩ hc
            rw [this] at hg; cases hg
        · rw [hfs2] at hr; cases hr
    · rw [hfs, Option.getD_none]
      refine .inr ⟨rfl, fun ys hy => ?_⟩
      cases ys with
      | nil => exact h0 hy
      | cons y ys =>
        obtain ⟨k', q', rfl, hk', hq', hbk', ho', hG'⟩ := hy
        have h1 := hnone k' hk'
        unfold g1 at h1
        rw [hbk'] at h1
        simp only [Bool.false_eq_true, if_false] at h1
        exact hno k' q' hk' hbk' (List.findSome?_eq_none_iff.1 h1 q' (List.mem_range.2 hq')) ho' _ hG'
theorem drive_found {b : DBook} (hb5 : b.loads.length ≤ 5) : ∀ (r : Nat) (on : List Place) (l : Span) (left : Int), LeftOk r left → Found b on l left (driveD b r on l left) := by
  intro r
  induction r with
  | zero =>
    intro on l left h
    rw [card0 h]
    show Found b on l 0 (driveS b _ on l 0)
    rw [driveS_eq, if_pos rfl]
    exact found_zero hb5 on l
  | succ r ih =>
    intro on l left h
    exact found_step hb5 h.1 fun k q hk hb => by
      have h1 := off_spec h.1 (by omega) hb
      exact ih _ _ _ ⟨h1.1, by have := h.2; omega⟩
end Go.Proofs.YthfnedbpmdkdjaaDoor.D
namespace Go.Proofs.YthfnedbpmdkdjaaDoor.D
open Go Go.RowKit Go.Proofs.YthfnedbpmdkdjaaDoor.Eng Go.Proofs.YthfnedbpmdkdjaaDoor.Cm
set_option linter.unusedVariables false
set_option linter.unusedSimpArgs false
set_option linter.unusedSectionVars false
def z0 (s k : Nat) : Bool := bitI (s : Int) k == 0
theorem off_bits_all : ((List.range 32).all fun s => (List.range 5).all fun k => (List.range 5).all fun j => z0 s k || ((bitI (offI (s : Int) k) j == 0) == (z0 s j || j == k))) = true := by kernel_rfl
theorem or_bits_all : ((List.range 32).all fun s => (List.range 5).all fun k => (List.range 5).all fun j => (bitI (orI (s : Int) (k : Int)) j == 0) == (z0 s j && !(j == k))) = true := by kernel_rfl
theorem mem_bits_all : ((List.range 32).all fun s => (List.range 5).all fun j => memberF (s : Int) (j : Int) == !(z0 s j)) = true := by kernel_rfl
theorem ext_all : ((List.range 32).all fun s => (List.range 32).all fun t => s == t || !((List.range 5).all fun k => z0 s k == z0 t k)) = true := by kernel_rfl
theorem all2 {p : Nat → Nat → Bool} {m n : Nat} (h : ((List.range m).all fun s => (List.range n).all fun k => p s k) = true) {s k : Nat} (hs : s < m) (hk : k < n) : p s k = true := List.all_eq_true.1 (List.all_eq_true.1 h s (List.mem_range.2 hs)) k (List.mem_range.2 hk)
theorem castN {s : Int} (h : 0 ≤ s) : ((s.toNat : Nat) : Int) = s := by omega
theorem off_bits {s : Int} {k j : Nat} (h : 0 ≤ s ∧ s < 32) (hk : k < 5) (hj : j < 5) (hb : (bitI s k == 0) = false) : (bitI (offI s k) j == 0) = ((bitI s j == 0) || j == k) := by
  have h1 := List.all_eq_true.1 (all2 off_bits_all (s := s.toNat) (k := k) (by omega) hk) j (List.mem_range.2 hj)
  simp only [z0, castN h.1] at h1
  rw [hb, Bool.false_or] at h1
  exact eq_of_beq h1
theorem or_bits {s : Int} {k j : Nat} (h : 0 ≤ s ∧ s < 32) (hk : k < 5) (hj : j < 5) : (bitI (orI s (k : Int)) j == 0) = ((bitI s j == 0) && !(j == k)) := by
  have h1 := List.all_eq_true.1 (all2 or_bits_all (s := s.toNat) (k := k) (by omega) hk) j (List.mem_range.2 hj)
  simp only [z0, castN h.1] at h1
  exact eq_of_beq h1
theorem mem_bits {s : Int} {j : Nat} (h : 0 ≤ s ∧ s < 32) (hj : j < 5) : memberF s (j : Int) = !(bitI s j == 0) := by
  have h1 := all2 mem_bits_all (s := s.toNat) (k := j) (by omega) hj
  simp only [z0, castN h.1] at h1
  exact eq_of_beq h1
theorem set_ext {s t : Int} (hs : 0 ≤ s ∧ s < 32) (ht : 0 ≤ t ∧ t < 32) (h : ∀ k, k < 5 → (bitI s k == 0) = (bitI t k == 0)) : s = t := by
  have h1 := all2 ext_all (s := s.toNat) (k := t.toNat) (by omega) (by omega)
  have h2 : ((List.range 5).all fun k => z0 s.toNat k == z0 t.toNat k) = true := List.all_eq_true.2 fun k hk => by
    simp only [z0, castN hs.1, castN ht.1]
    rw [h k (List.mem_range.1 hk)]; simp
  rw [h2] at h1
  simp only [Bool.not_true, Bool.or_false, beq_iff_eq] at h1
  omega
structure SetIs (s : Int) (ls : List Int) : Prop where
  nd : ls.Nodup
  rng : ∀ x ∈ ls, 0 ≤ x ∧ x < 5
  mem : ∀ k : Nat, k < 5 → ((bitI s k == 0) = false ↔ (k : Int) ∈ ls)
theorem setIs_nil {s : Int} (hs : 0 ≤ s ∧ s < 32) : SetIs s [] ↔ s = 0 := by
  constructor
  · intro h
    refine set_ext hs (by omega) fun k hk => ?_
    have h1 := List.all_eq_true.1 bit0_all k (List.mem_range.2 hk)
    rw [h1]
    cases hb : bitI s k == 0 with
    | true => rfl
    | false => exact absurd ((h.mem k hk).1 hb) (by simp)
  · rintro rfl
    exact ⟨List.nodup_nil, fun x hx => (by cases hx), fun k hk => by
      have h1 := List.all_eq_true.1 bit0_all k (List.mem_range.2 hk)
      rw [h1]; simp⟩
theorem setIs_cons {s : Int} (hs : 0 ≤ s ∧ s < 32) {k : Nat} (hk : k < 5) {ls : List Int} : SetIs s ((k : Int) :: ls) ↔ (bitI s k == 0) = false ∧ SetIs (offI s k) ls := by
  constructor
  · intro h
    have hb := (h.mem k hk).2 List.mem_cons_self
    have hnd := List.nodup_cons.1 h.nd
    refine ⟨hb, hnd.2, fun x hx => h.rng x (List.mem_cons_of_mem _ hx), fun j hj => ?_⟩
    rw [off_bits hs hk hj hb, Bool.or_eq_false_iff]
    constructor
    · rintro ⟨h1, h2⟩
      rcases List.mem_cons.1 ((h.mem j hj).1 h1) with h3 | h3
      · rw [beq_eq_false_iff_ne] at h2; omega
      · exact h3
    · intro h1
      refine ⟨(h.mem j hj).2 (List.mem_cons_of_mem _ h1), beq_eq_false_iff_ne.2 fun e => ?_⟩
      subst e
      exact hnd.1 h1
  · rintro ⟨hb, h⟩
    have h0 := h.mem k hk
    rw [off_bits hs hk hk hb] at h0
    refine ⟨List.nodup_cons.2 ⟨fun hm => by have := h0.2 hm; simp at this, h.nd⟩, fun x hx => ?_, fun j hj => ?_⟩
    · rcases List.mem_cons.1 hx with rfl | hx
      · omega
      · exact h.rng x hx
    · have h1 := h.mem j hj
      rw [off_bits hs hk hj hb, Bool.or_eq_false_iff] at h1
      rw [List.mem_cons]
      constructor
      · intro h2
        by_cases e : j = k
        · exact .inl (by omega)
        · exact .inr (h1.1 ⟨h2, beq_eq_false_iff_ne.2 e⟩)
      · rintro (h2 | h2)
        · obtain rfl : j = k := by omega
          exact hb
        · exact (h1.2 h2).1
def SureL (b : DBook) : Span → List Place → Prop
  | _, [] => True
  | l, x :: xs => decide (levelD b (stepD b l x) < 2) = false ∧ SureL b (stepD b l x) xs
theorem good_iff {b : DBook} (hb5 : b.loads.length ≤ 5) : ∀ (xs : List Place) (l : Span) (left : Int), 0 ≤ left ∧ left < 32 → (Good b l left xs ↔ (∀ x ∈ xs, isPl b x.load x.lane = true) ∧ SureL b l xs ∧ SetIs left (xs.map (·.load))) := by
  intro xs
  induction xs with
  | nil =>
    intro l left hl
    rw [List.map_nil, setIs_nil hl]
    exact ⟨fun h => ⟨fun x hx => (by cases hx), trivial, h⟩, fun h => h.2.2⟩
  | cons x xs ih =>
    intro l left hl
    constructor
    · rintro ⟨k, q, rfl, hk, hq, hb, ho, hG⟩
      have h1 := off_spec hl (show k < 5 by omega) hb
      obtain ⟨i1, i2, i3⟩ := (ih _ _ h1.1).1 hG
      unfold okP at ho
      simp only [Bool.and_eq_true, Bool.not_eq_true'] at ho
      refine ⟨fun y hy => ?_, ⟨ho.2, i2⟩, (setIs_cons hl (by omega)).2 ⟨hb, i3⟩⟩
      rcases List.mem_cons.1 hy with rfl | hy
      · exact ho.1
      · exact i1 y hy
    · rintro ⟨h1, ⟨h2, h3⟩, h4⟩
      have hs := isPl_spec (h1 x List.mem_cons_self)
      obtain ⟨xl, xq⟩ := x
      simp only at hs
      obtain ⟨k, rfl⟩ : ∃ k : Nat, xl = (k : Int) := ⟨xl.toNat, by omega⟩
      obtain ⟨q, rfl⟩ : ∃ q : Nat, xq = (q : Int) := ⟨xq.toNat, by omega⟩
      have h5 := (setIs_cons hl (k := k) (by omega)).1 h4
      have h6 := off_spec hl (show k < 5 by omega) h5.1
      refine ⟨k, q, rfl, by omega, by omega, h5.1, ?_, (ih _ _ h6.1).2 ⟨fun y hy => h1 y (List.mem_cons_of_mem _ hy), h3, h5.2⟩⟩
      unfold okP
      rw [show isPl b (k : Int) (q : Int) = true from h1 _ List.mem_cons_self]
      have h2' : decide (levelD b (laneF (q : Int) l (b.loads.getD k zLoad).w) < 2) = false := h2
      rw [h2']; rfl
theorem sure_take {b : DBook} : ∀ (xs : List Place) (l : Span), SureL b l xs ↔ ∀ k, k < xs.length → decide (levelD b ((xs.take (k + 1)).foldl (stepD b) l) < 2) = false := by
  intro xs
  induction xs with
  | nil => intro l; exact ⟨fun _ k hk => by simp at hk, fun _ => trivial⟩
  | cons x xs ih =>
    intro l
    constructor
    · rintro ⟨h1, h2⟩ k hk
      cases k with
      | zero => exact h1
      | succ k => exact (ih _).1 h2 k (by simpa using hk)
    · intro h
      exact ⟨h 0 (by simp), (ih _).2 fun k hk => h (k + 1) (by simpa using hk)⟩
theorem tilt_sure {b : DBook} {on : List Place} : tiltQ b on = none ↔ SureL b zSpan on := by
  rw [sure_take]
  unfold tiltQ listsD preD
  rw [List.find?_eq_none]
  simp only [List.mem_map, List.mem_range]
  constructor
  · intro h k hk
    have := h _ ⟨k, hk, rfl⟩
    exact Bool.eq_false_iff.2 this
  · rintro h x ⟨k, hk, rfl⟩
    exact Bool.eq_false_iff.1 (h k hk)
theorem setIs_M {n s : Nat} (hn : n ≤ 5) (hs : s < 2 ^ n) : SetIs (s : Int) (M n s) := by
  have h32 := pow_lt hn hs
  have hlist : M n s = M 5 s := lift hn hs
  rw [hlist]
  refine ⟨(M_climb 5 s).up.imp fun h => by omega, fun x hx => by have := (M_climb 5 s).rng x hx; omega, fun k hk => ?_⟩
  unfold M
  rw [members_mem, mem_bits (by omega) hk, Bool.not_eq_true']
  exact ⟨fun h => ⟨by omega, by omega, h⟩, fun h => h.2.2⟩
theorem setIs_perm {s : Int} {l m : List Int} (h : SetIs s l) (hp : m.Perm l) : SetIs s m := ⟨hp.nodup_iff.2 h.nd, fun x hx => h.rng x (hp.mem_iff.1 hx), fun k hk => (h.mem k hk).trans hp.mem_iff.symm⟩
end Go.Proofs.YthfnedbpmdkdjaaDoor.D
namespace Go.Proofs.YthfnedbpmdkdjaaDoor.D
open Go Go.RowKit Go.Proofs.YthfnedbpmdkdjaaDoor.Eng Go.Proofs.YthfnedbpmdkdjaaDoor.Cm
set_option linter.unusedVariables false
set_option linter.unusedSimpArgs false
set_option linter.unusedSectionVars false
def Way (b : DBook) (s : Nat) (xs : List Place) : Prop := (∀ x ∈ xs, isPl b x.load x.lane = true) ∧ SureL b zSpan xs ∧ SetIs (s : Int) (xs.map (·.load))
theorem way_good {b : DBook} (hb5 : b.loads.length ≤ 5) {s : Nat} (hs : s < 32) (xs : List Place) : Good b zSpan (s : Int) xs ↔ Way b s xs := good_iff hb5 xs zSpan _ (by omega)
theorem stow_cases {b : DBook} (hv : ValidD b) {s : Nat} (hs : s < 2 ^ b.loads.length) : (∃ xs, stowD b (s : Int) = (xs, true) ∧ weightD b (s : Int) ≤ b.most ∧ Way b s xs ∧ ∀ ys, Way b s ys → ¬ SoonP ys xs) ∨ (stowD b (s : Int) = ([], false) ∧ (b.most < weightD b (s : Int) ∨ ∀ ys, ¬ Way b s ys)) := by
  have h32 := pow_lt hv.n.2 hs
  unfold stowD
  by_cases hw : weightD b (s : Int) > b.most
  · rw [decide_eq_true hw]; exact .inr ⟨rfl, .inl hw⟩
  · rw [decide_eq_false hw, cond_false]
    have hf := drive_found hv.n.2 5 [] zSpan (s : Int) (left5 (by omega))
    have he : driveD b 5 [] (⟨0, 0⟩ : Span) (s : Int) = driveD b 5 [] zSpan (s : Int) := rfl
    rcases hf with ⟨xs, e, hG, hS⟩ | ⟨e, hN⟩
    · exact .inl ⟨xs, by rw [he, e]; rfl, by omega, (way_good hv.n.2 h32 xs).1 hG, fun ys hy => hS ys ((way_good hv.n.2 h32 ys).2 hy)⟩
    · exact .inr ⟨by rw [he, e], .inr fun ys hy => hN ys ((way_good hv.n.2 h32 ys).2 hy)⟩
theorem together_iff {b : DBook} (hv : ValidD b) {s : Nat} (hs : s < 2 ^ b.loads.length) : togetherD b (s : Int) = true ↔ weightD b (s : Int) ≤ b.most ∧ ∃ ys, Way b s ys := by
  unfold togetherD
  rcases stow_cases hv hs with ⟨xs, e, h1, h2, _⟩ | ⟨e, h⟩
  · rw [e]; exact ⟨fun _ => ⟨h1, xs, h2⟩, fun _ => rfl⟩
  · rw [e]
    refine ⟨fun h => (by cases h), fun ⟨h1, ys, h2⟩ => ?_⟩
    rcases h with h | h
    · omega
    · exact absurd h2 (h ys)
theorem ask_ok {b : DBook} (hv : ValidD b) {on : List Place} (h : StowOk b on) : askD b on = 0 := by
  unfold askD
  rw [(isStowD_iff hv.n.2).2 h]; rfl
theorem tiltsA_eq {b : DBook} (hv : ValidD b) {on : List Place} (h : StowOk b on) : tiltsA b on = match tiltQ b on with | some y => (y.1, 0) | none => (0, 4) := by
  unfold tiltsA
  rw [checkD_valid.2 hv, ask_ok hv h]; rfl
theorem listA_eq {b : DBook} (hv : ValidD b) {on : List Place} (h : StowOk b on) : listA b on = (lastS (listsD b on), 0) := by
  unfold listA
  rw [checkD_valid.2 hv, ask_ok hv h]; rfl
theorem levelA_eq {b : DBook} (hv : ValidD b) {on : List Place} (h : StowOk b on) : levelA b on = (levelD b (lastS (listsD b on)), 0) := by
  unfold levelA
  rw [checkD_valid.2 hv, ask_ok hv h]; rfl
theorem lanes_all : ((List.range 8).all fun m => m == 0 || !((membersF (m : Int) 3).length == 0)) = true := by kernel_rfl
theorem choose_mem {l : List Int} (h : 0 < l.length) (hl : l.length ≤ 100) (q : Int) : chooseF l q ∈ l := by
  unfold chooseF
  rw [show ((l.length : Int) == 0) = false from beq_eq_false_iff_ne.2 (by omega), cond_false]
  have := modF_in q (l.length : Int) (by omega) (by omega)
  exact getD_mem (by omega)
theorem drawn_ok {b : DBook} (hv : ValidD b) {s : Nat} (hs : s < 2 ^ b.loads.length) (bits : List Int) : StowOk b (drawnL b (M b.loads.length s) bits) ∧ SetIs (s : Int) ((drawnL b (M b.loads.length s) bits).map (·.load)) := by
  have hl5 : (M b.loads.length s).length ≤ 5 := Nat.le_trans (members_len _ _) hv.n.2
  obtain ⟨hp, hq⟩ := drawn_spec (b := b) (bits := bits) hl5
  have hset := setIs_perm (setIs_M hv.n.2 hs) hp
  refine ⟨⟨fun x hx => ?_, hset.nd⟩, hset⟩
  have hm := (M_climb b.loads.length s).rng _ (hp.mem_iff.1 (List.mem_map.2 ⟨x, hx, rfl⟩))
  obtain ⟨q, hq⟩ := hq x hx
  have hld := (hv.load (k := x.load.toNat) (by omega)).2
  have h1 := List.all_eq_true.1 lanes_all (b.loads.getD x.load.toNat zLoad).lanes.toNat (List.mem_range.2 (by omega))
  rw [castN (by omega)] at h1
  have h2 : 0 < (membersF (b.loads.getD x.load.toNat zLoad).lanes 3).length := by
    rcases Nat.eq_zero_or_pos (membersF (b.loads.getD x.load.toNat zLoad).lanes 3).length with h | h
    · rw [h, show ((b.loads.getD x.load.toNat zLoad).lanes.toNat == 0) = false from beq_eq_false_iff_ne.2 (by omega)] at h1
      simp at h1
    · exact h
  have h3 := choose_mem h2 (Nat.le_trans (members_len _ 3) (by decide)) q
  rw [← hq] at h3
  have h4 := (members_mem (n := 3)).1 h3
  unfold isPl
  rw [decide_eq_true hm.1, decide_eq_true hm.2, decide_eq_true h4.1, decide_eq_true (show x.lane < 3 by have := h4.2.1; omega)]
  exact h4.2.2
theorem list_range {α : Type} (l : List α) (z : α) : (List.range l.length).map (fun k => l.getD k z) = l := by
  apply List.ext_getElem
  · simp
  · intro j h1 h2
    simp [List.getD_eq_getElem?_getD, h2]
theorem weight_eq (b : DBook) (s : Int) : weightD b s = (List.range b.loads.length).foldl (fun (v : Int) (k : Nat) => bif memberF s (k : Int) then IntKind.i64.wrap (v + (b.loads.getD k zLoad).w.hi) else v) 0 := by
  unfold weightD
  rw [loopR_foldl (c := weightD_c1 b s) (b := weightD_b1 b s) (fun k v => bif memberF s (k : Int) then IntKind.i64.wrap (v + (b.loads.getD k zLoad).w.hi) else v) (fun k v hk => by simp only [weightD_c1]; rw [decide_eq_true]; omega) (fun k v hk => rfl)]
end Go.Proofs.YthfnedbpmdkdjaaDoor.D
namespace Go.Proofs.YthfnedbpmdkdjaaDoor.D
open Go Go.RowKit Go.Proofs.YthfnedbpmdkdjaaDoor.Eng Go.Proofs.YthfnedbpmdkdjaaDoor.Cm
set_option linter.unusedVariables false
set_option linter.unusedSimpArgs false
set_option linter.unusedSectionVars false
theorem acc_bounds {b : DBook} (hv : ValidD b) {on : List Place} (hpl : ∀ x ∈ on, isPl b x.load x.lane = true) (hlen : on.length ≤ 5) : ∀ k : Nat, k ≤ on.length → -60 * (k : Int) ≤ (accD b on k).lo ∧ (accD b on k).lo ≤ (accD b on k).hi ∧ (accD b on k).hi ≤ 60 * (k : Int) := by
  intro k
  induction k with
  | zero => intro _; exact ⟨by show _ ≤ (0 : Int); omega, Int.le_refl _, by show (0 : Int) ≤ _; omega⟩
  | succ k ih =>
    intro hk
    obtain ⟨h1, h2, h3⟩ := ih (by omega)
    have hs := isPl_spec (hpl _ (getD_mem (z := zPlace) (show k < on.length by omega)))
    have hw := (hv.load (k := (on.getD k zPlace).load.toNat) (by omega)).1
    rw [accD_succ (by omega)]
    unfold stepD laneF
    by_cases e0 : (on.getD k zPlace).lane = 0
    · rw [if_pos e0]
      simp only [portD]
      rw [wrapI (by omega) (by omega), wrapI (by omega) (by omega)]
      omega
    · rw [if_neg e0]
      by_cases e1 : (on.getD k zPlace).lane = 1
      · rw [if_pos e1]; simp only [middleD]; omega
      · rw [if_neg e1]
        simp only [starD]
        rw [wrapI (by omega) (by omega), wrapI (by omega) (by omega)]
        omega
theorem rule_wrap {b : DBook} (hv : ValidD b) : IntKind.i64.wrap (0 - b.rule) = -b.rule := by
  have := hv.rule
  rw [wrapI (by omega) (by omega)]; omega
theorem level_cases {b : DBook} (hv : ValidD b) {l : Span} (h : l.lo ≤ l.hi) : (levelD b l = 2 ∧ -b.rule ≤ l.lo ∧ l.hi ≤ b.rule) ∨ (levelD b l = 1 ∧ ¬ (-b.rule ≤ l.lo ∧ l.hi ≤ b.rule) ∧ l.lo ≤ b.rule ∧ -b.rule ≤ l.hi) ∨ (levelD b l = 0 ∧ ¬ (-b.rule ≤ l.lo ∧ l.hi ≤ b.rule) ∧ (b.rule < l.lo ∨ l.hi < -b.rule)) := by
  have hr := hv.rule
  unfold levelD
  rw [rule_wrap hv]
  by_cases h2 : -b.rule ≤ l.lo ∧ l.hi ≤ b.rule
  · left
    have : (withinD l.lo (-b.rule) b.rule && withinD l.hi (-b.rule) b.rule) = true := by simp only [withinD, Bool.and_eq_true, decide_eq_true_eq]; omega
    rw [this]; exact ⟨rfl, h2⟩
  · right
    have : (withinD l.lo (-b.rule) b.rule && withinD l.hi (-b.rule) b.rule) = false := by
      rw [Bool.eq_false_iff]; intro h3
      simp only [withinD, Bool.and_eq_true, decide_eq_true_eq] at h3; omega
    rw [this, cond_false]
    by_cases h1 : l.lo ≤ b.rule ∧ -b.rule ≤ l.hi
    · left
      rw [decide_eq_true h1.1, decide_eq_true (show l.hi ≥ -b.rule from h1.2)]
      exact ⟨rfl, h2, h1⟩
    · right
      have : (decide (l.lo ≤ b.rule) && decide (l.hi ≥ -b.rule)) = false := by
        rw [Bool.eq_false_iff]; intro h3
        simp only [Bool.and_eq_true, decide_eq_true_eq] at h3
        exact h1 h3
      rw [this]; exact ⟨rfl, h2, by omega⟩
theorem last_acc (b : DBook) (on : List Place) : lastS (listsD b on) = accD b on on.length := by
  unfold listsD
  cases h : on.length with
  | zero => rfl
  | succ n => rw [preD_succ, lastS_snoc]; rfl
theorem tilt_first {b : DBook} {on : List Place} {y : Int × Span} (h : tiltQ b on = some y) : ∃ i, i < on.length ∧ y.1 = (i : Int) ∧ decide (levelD b (accD b on (i + 1)) < 2) = true ∧ ∀ j, j < i → decide (levelD b (accD b on (j + 1)) < 2) = false := by
  unfold tiltQ listsD preD at h
  rw [List.find?_map] at h
  obtain ⟨i, hi, rfl⟩ := Option.map_eq_some_iff.1 h
  obtain ⟨h1, h2, h3⟩ := List.find?_range_eq_some.1 hi
  exact ⟨i, List.mem_range.1 h2, rfl, h1, fun j hj => by have h4 := h3 j hj; rw [Bool.not_eq_true'] at h4; exact h4⟩
theorem tilt_no {b : DBook} {on : List Place} (h : tiltQ b on = none) : ∀ j, j < on.length → decide (levelD b (accD b on (j + 1)) < 2) = false := by
  intro j hj
  have h1 := (tilt_sure (b := b) (on := on)).1 h
  exact (sure_take on zSpan).1 h1 j hj
theorem set_len {b : DBook} (hv : ValidD b) {s : Nat} {on : List Place} (h : SetIs (s : Int) (on.map (·.load))) : on.length ≤ 5 := by
  have h1 : (on.map (·.load)).length ≤ ((List.range 5).map fun k : Nat => (k : Int)).length := List.Nodup.length_le_of_subset h.nd fun x hx => by
    have := h.rng x hx
    exact List.mem_map.2 ⟨x.toNat, List.mem_range.2 (by omega), by omega⟩
  simpa using h1
theorem drawn_len5 {b : DBook} (hv : ValidD b) (s : Nat) (bits : List Int) : (drawnL b (M b.loads.length s) bits).length ≤ 5 := by
  have hl5 : (M b.loads.length s).length ≤ 5 := Nat.le_trans (members_len _ _) hv.n.2
  rw [drawn_len hl5]; exact hl5
end Go.Proofs.YthfnedbpmdkdjaaDoor.D
namespace Go.Proofs.YthfnedbpmdkdjaaDoor.D
open Go Go.RowKit Go.Proofs.YthfnedbpmdkdjaaDoor.Eng Go.Proofs.YthfnedbpmdkdjaaDoor.Cm
set_option linter.unusedVariables false
set_option linter.unusedSimpArgs false
set_option linter.unusedSectionVars false
def updC (of : List Int) (c : Int) (k : Nat) : List Int := of.set c.toNat (orI (of.getD c.toNat 0) (k : Int))
def gC (F : List Int → List Int → List Int × Bool) (so of : List Int) (k : Nat) : Option (List Int × Bool) := bif (F (so ++ [(k : Int)]) (updC of (k : Int) so.length)).2 then some ((F (so ++ [(k : Int)]) (updC of (k : Int) so.length)).1, true) else none
theorem crossS_eq (b : DBook) (S : List (Int × Bool)) (F : List Int → List Int → List Int × Bool) (so of : List Int) : crossS b S F so of = if so.length = b.loads.length then (so, !(containsD S of)) else ((List.range of.length).findSome? (gC F so of)).getD ([], false) := by
  have hcut : cut so 0 (so.length : Int) = so := by simp [cut]
  unfold crossS
  by_cases h : so.length = b.loads.length
  · rw [if_pos h, h, beq_self_eq_true]; rfl
  · rw [if_neg h, show ((so.length : Int) == (b.loads.length : Int)) = false from beq_eq_false_iff_ne.2 (by omega), cond_false]
    rw [loopR_some (c := crossS_c1 b S F so of) (b := crossS_b1 b S F so of) (gC F so of) (fun k hk => by simp only [crossS_c1]; rw [decide_eq_true]; omega) (fun k hk => by
      simp only [crossS_b1, hcut, gC, updC, cloneL, cloneI, orI, show ((k : Int)).toNat = k by omega]
      generalize F (so ++ [(k : Int)]) _ = z
      obtain ⟨z1, z2⟩ := z
      cases z2 <;> rfl)]
    cases (List.range of.length).findSome? (gC F so of) <;> rfl
def finC : Nat → List Int → List Int → List Int
  | _, [], of => of
  | k, c :: cs, of => finC (k + 1) cs (updC of c k)
def LexI : List Int → List Int → Prop
  | x :: xs, y :: ys => x < y ∨ (x = y ∧ LexI xs ys)
  | _, _ => False
def SolC (S : List (Int × Bool)) (n : Nat) (so of cs : List Int) : Prop := so.length + cs.length = n ∧ (∀ c ∈ cs, 0 ≤ c ∧ c < of.length) ∧ containsD S (finC so.length cs of) = false
theorem sol_cons {S : List (Int × Bool)} {n : Nat} {so of cs : List Int} {c : Int} : SolC S n so of (c :: cs) ↔ (0 ≤ c ∧ c < of.length) ∧ SolC S n (so ++ [c]) (updC of c so.length) cs := by
  unfold SolC
  have hl : (updC of c so.length).length = of.length := by unfold updC; rw [List.length_set]
  rw [List.length_append, List.length_singleton, List.length_cons, hl]
  constructor
  · rintro ⟨h1, h2, h3⟩
    exact ⟨h2 c List.mem_cons_self, by omega, fun x hx => h2 x (List.mem_cons_of_mem _ hx), h3⟩
  · rintro ⟨h1, h2, h3, h4⟩
    exact ⟨by omega, fun x hx => (List.mem_cons.1 hx).elim (fun e => e ▸ h1) (h3 x), h4⟩
def FoundC (S : List (Int × Bool)) (n : Nat) (so of : List Int) (o : List Int × Bool) : Prop := (∃ cs, o = (so ++ cs, true) ∧ SolC S n so of cs ∧ ∀ ds, SolC S n so of ds → ¬ LexI ds cs) ∨ (o.2 = false ∧ ∀ ds, ¬ SolC S n so of ds)
theorem cross_found {b : DBook} (S : List (Int × Bool)) : ∀ (r : Nat) (so of : List Int), so.length + r = b.loads.length → FoundC S b.loads.length so of (crossD b S r so of) := by
  have leaf : ∀ (F : List Int → List Int → List Int × Bool) (so of : List Int), so.length = b.loads.length → FoundC S b.loads.length so of (crossS b S F so of) := fun F so of h => by
    rw [crossS_eq, if_pos h]
    have hnil : ∀ ds, SolC S b.loads.length so of ds → ds = [] := fun ds hd => List.length_eq_zero_iff.1 (by have := hd.1; omega)
    cases hc : containsD S of with
    | true => exact .inr ⟨rfl, fun ds hd => by
        have h1 := hd.2.2
        rw [hnil ds hd] at h1
        rw [show finC so.length [] of = of from rfl, hc] at h1; cases h1⟩
    | false => exact .inl ⟨[], by simp, ⟨by simpa using h, fun c hc => (by cases hc), hc⟩, fun ds hd hl => by rw [hnil ds hd] at hl; exact hl⟩
  intro r
  induction r with
  | zero => intro so of h; exact leaf _ so of (by omega)
  | succ r ih =>
    intro so of h
    show FoundC S b.loads.length so of (crossS b S (crossD b S r) so of)
    have hIH : ∀ k : Nat, FoundC S b.loads.length (so ++ [(k : Int)]) (updC of (k : Int) so.length) (crossD b S r (so ++ [(k : Int)]) (updC of (k : Int) so.length)) := fun k => ih _ _ (by rw [List.length_append, List.length_singleton]; omega)
    have hno : ∀ k : Nat, gC (crossD b S r) so of k = none → ∀ ds, ¬ SolC S b.loads.length (so ++ [(k : Int)]) (updC of (k : Int) so.length) ds := fun k hg => by
      unfold gC at hg
      rcases hIH k with ⟨xs, e, _⟩ | ⟨_, hn⟩
      · rw [e] at hg; cases hg
      · exact hn
    have hcons : ∀ ds, SolC S b.loads.length so of ds → ∃ (k : Nat) (es : List Int), ds = (k : Int) :: es ∧ k < of.length ∧ SolC S b.loads.length (so ++ [(k : Int)]) (updC of (k : Int) so.length) es := fun ds hd => by
      cases ds with
      | nil => have := hd.1; simp at this; omega
      | cons c es =>
        obtain ⟨h1, h2⟩ := sol_cons.1 hd
        refine ⟨c.toNat, es, by rw [castN h1.1], by omega, by rw [castN h1.1]; exact h2⟩
    rw [crossS_eq, if_neg (by omega)]
    rcases range_first (gC (crossD b S r) so of) of.length with ⟨k, o, hk, ho, hbef, hfs⟩ | ⟨hnone, hfs⟩
    · rw [hfs, Option.getD_some]
      unfold gC at ho
      rcases hIH k with ⟨xs, e, hsol, hmin⟩ | ⟨e, _⟩
      · rw [e] at ho
        simp only [cond_true, Option.some.injEq] at ho
        subst ho
        refine .inl ⟨(k : Int) :: xs, by simp, sol_cons.2 ⟨⟨by omega, by omega⟩, hsol⟩, fun ds hd hl => ?_⟩
        obtain ⟨k', es, rfl, hk', hes⟩ := hcons ds hd
        rcases hl with hl | ⟨hl, hl2⟩
        · exact hno k' (hbef k' (by omega)) _ hes
        · obtain rfl : k' = k := by omega
          exact hmin _ hes hl2
      · rw [e] at ho; cases ho
    · rw [hfs, Option.getD_none]
      exact .inr ⟨rfl, fun ds hd => by
        obtain ⟨k', es, rfl, hk', hes⟩ := hcons ds hd
        exact hno k' (hnone k' hk') _ hes⟩
def maskF : Nat → List Int → Nat → Int → Int
  | _, [], _, s => s
  | k, c :: cs, j, s => maskF (k + 1) cs j (if c = (j : Int) then orI s (k : Int) else s)
theorem fin_len : ∀ (cs : List Int) (k : Nat) (of : List Int), (finC k cs of).length = of.length := by
  intro cs
  induction cs with
  | nil => intro k of; rfl
  | cons c cs ih => intro k of; rw [finC, ih]; unfold updC; rw [List.length_set]
theorem fin_get : ∀ (cs : List Int) (k : Nat) (of : List Int) (j : Nat), (∀ c ∈ cs, 0 ≤ c ∧ c < of.length) → j < of.length → (finC k cs of).getD j 0 = maskF k cs j (of.getD j 0) := by
  intro cs
  induction cs with
  | nil => intro k of j _ _; rfl
  | cons c cs ih =>
    intro k of j hc hj
    have hc1 := hc c List.mem_cons_self
    have hl : (updC of c k).length = of.length := by unfold updC; rw [List.length_set]
    rw [finC, ih (k + 1) _ j (fun x hx => by rw [hl]; exact hc x (List.mem_cons_of_mem _ hx)) (by rw [hl]; exact hj), maskF]
    congr 1
    unfold updC
    rw [List.getD_eq_getElem?_getD, List.getElem?_set]
    by_cases e : c = (j : Int)
    · rw [if_pos (by omega), if_pos (by omega), if_pos e, show c.toNat = j by omega]; rfl
    · rw [if_neg (by omega), if_neg e, List.getD_eq_getElem?_getD]
theorem mask_bits : ∀ (cs : List Int) (k j : Nat) (s : Int), k + cs.length ≤ 5 → (0 ≤ s ∧ s < 32) → (0 ≤ maskF k cs j s ∧ maskF k cs j s < 32) ∧ ∀ i : Nat, i < 5 → ((bitI (maskF k cs j s) i == 0) = false ↔ (bitI s i == 0) = false ∨ (k ≤ i ∧ i < k + cs.length ∧ cs.getD (i - k) (-1) = (j : Int))) := by
  intro cs
  induction cs with
  | nil => intro k j s _ hs; exact ⟨hs, fun i _ => ⟨fun h => .inl h, fun h => h.elim id fun h => (by have := h.1; have := h.2.1; simp only [List.length_nil] at this; omega)⟩⟩
  | cons c cs ih =>
    intro k j s hk hs
    rw [List.length_cons] at hk
    have hs2 : 0 ≤ (if c = (j : Int) then orI s (k : Int) else s) ∧ (if c = (j : Int) then orI s (k : Int) else s) < 32 := by
      split
      · exact or_in hs (by omega)
      · exact hs
    obtain ⟨h1, h2⟩ := ih (k + 1) j _ (by omega) hs2
    refine ⟨h1, fun i hi => ?_⟩
    rw [maskF, h2 i hi, List.length_cons]
    have hbit : ((bitI (if c = (j : Int) then orI s (k : Int) else s) i == 0) = false) ↔ (bitI s i == 0) = false ∨ (c = (j : Int) ∧ i = k) := by
      split
      · rename_i e
        rw [or_bits hs (by omega) hi, Bool.and_eq_false_iff, Bool.not_eq_false', beq_iff_eq]
        exact ⟨fun h => h.imp id fun h => ⟨e, h⟩, fun h => h.imp id fun h => h.2⟩
      · rename_i e
        exact ⟨fun h => .inl h, fun h => h.elim id fun h => absurd h.1 e⟩
    rw [hbit]
    constructor
    · rintro ((h | ⟨h, rfl⟩) | ⟨h3, h4, h5⟩)
      · exact .inl h
      · exact .inr ⟨by omega, by omega, by simp [h]⟩
      · refine .inr ⟨by omega, by omega, ?_⟩
        rw [show i - k = (i - (k + 1)) + 1 by omega, List.getD_cons_succ]; exact h5
    · rintro (h | ⟨h3, h4, h5⟩)
      · exact .inl (.inl h)
      · by_cases e : i = k
        · subst e
          rw [Nat.sub_self, List.getD_cons_zero] at h5
          exact .inl (.inr ⟨h5, rfl⟩)
        · rw [show i - k = (i - (k + 1)) + 1 by omega, List.getD_cons_succ] at h5
          exact .inr ⟨by omega, by omega, h5⟩
theorem small_all : ((List.range 6).all fun n => (List.range 32).all fun s => decide (s < 2 ^ n) || (List.range 5).any fun k => decide (n ≤ k) && !(z0 s k)) = true := by kernel_rfl
theorem mask_spec {cs : List Int} (hn : cs.length ≤ 5) (j : Nat) : ∃ s : Nat, s < 2 ^ cs.length ∧ maskF 0 cs j 0 = (s : Int) ∧ crossingL cs (j : Int) = M cs.length s := by
  obtain ⟨h1, h2⟩ := mask_bits cs 0 j 0 (by omega) (by omega)
  have hz : ∀ i, i < 5 → (bitI 0 i == 0) = true := fun i hi => List.all_eq_true.1 bit0_all i (List.mem_range.2 hi)
  have h3 : ∀ i, i < 5 → ((bitI (maskF 0 cs j 0) i == 0) = false ↔ i < cs.length ∧ cs.getD i (-1) = (j : Int)) := fun i hi => by
    rw [h2 i hi, hz i hi]; simp
  refine ⟨(maskF 0 cs j 0).toNat, ?_, by omega, ?_⟩
  · have h4 := List.all_eq_true.1 (List.all_eq_true.1 small_all cs.length (List.mem_range.2 (by omega))) (maskF 0 cs j 0).toNat (List.mem_range.2 (by omega))
    rw [Bool.or_eq_true, decide_eq_true_eq] at h4
    rcases h4 with h4 | h4
    · exact h4
    · obtain ⟨k, hk, hb⟩ := List.any_eq_true.1 h4
      simp only [z0, castN h1.1, Bool.and_eq_true, decide_eq_true_eq, Bool.not_eq_true'] at hb
      have := (h3 k (List.mem_range.1 hk)).1 hb.2
      omega
  · unfold crossingL
    rw [loopR_app (c := crossingL_c1 cs (j : Int)) (b := crossingL_b1 cs (j : Int)) (fun k : Nat => bif (cs.getD k 0 == (j : Int)) then [(k : Int)] else []) (fun k v hk => by simp only [crossingL_c1]; rw [decide_eq_true]; omega) (fun k v hk => by
      simp only [crossingL_b1]
      cases (cs.getD k 0 == (j : Int)) <;> simp)]
    unfold M
    rw [members_eq, castN h1.1]
    simp only [List.nil_append]
    have : ∀ (ks : List Nat), (∀ k ∈ ks, k < cs.length) → (ks.flatMap fun k : Nat => bif (cs.getD k 0 == (j : Int)) then [(k : Int)] else []) = (ks.filter fun k : Nat => memberF (maskF 0 cs j 0) (k : Int)).map fun k : Nat => (k : Int) := by
      intro ks
      induction ks with
      | nil => intro _; rfl
      | cons k ks ih =>
        intro hk
        have hk1 := hk k List.mem_cons_self
        rw [List.flatMap_cons, ih fun i hi => hk i (List.mem_cons_of_mem _ hi), List.filter_cons]
        have hm : memberF (maskF 0 cs j 0) (k : Int) = (cs.getD k 0 == (j : Int)) := by
          rw [mem_bits h1 (by omega), Bool.eq_iff_iff, Bool.not_eq_true', beq_iff_eq, h3 k (by omega)]
          have hgd : cs.getD k (-1) = cs.getD k 0 := by
            rw [List.getD_eq_getElem?_getD, List.getD_eq_getElem?_getD, List.getElem?_eq_getElem hk1]; rfl
          rw [hgd]
          exact ⟨fun h => h.2, fun h => ⟨hk1, h⟩⟩
        rw [hm]
        cases (cs.getD k 0 == (j : Int)) <;> simp
    exact this _ fun k hk => List.mem_range.1 hk
def Goes (b : DBook) (cs : List Int) (m : Nat) : Prop := ∀ j, j < m → maskF 0 cs j 0 ≠ 0 ∧ togetherD b (maskF 0 cs j 0) = true
def setsB (b : DBook) : List (Int × Bool) := (List.range (2 ^ b.loads.length)).map fun k : Nat => ((k : Int), togetherD b (k : Int))
theorem sets_at {b : DBook} {s : Nat} (hs : s < 2 ^ b.loads.length) : atI (setsB b) stK stV (s : Int) = togetherD b (s : Int) := by
  unfold atI setsB
  rw [List.find?_map]
  have : (List.range (2 ^ b.loads.length)).find? ((fun x : Int × Bool => stK x == (s : Int)) ∘ fun k : Nat => ((k : Int), togetherD b (k : Int))) = some s := by
    rw [List.find?_range_eq_some]
    refine ⟨by simp, List.mem_range.2 hs, fun j hj => ?_⟩
    simp only [Function.comp, Bool.not_eq_true', beq_eq_false_iff_ne]
    show ¬ ((j : Int) = (s : Int))
    omega
  rw [this]; rfl
theorem contains_iff (S : List (Int × Bool)) (of : List Int) : containsD S of = false ↔ ∀ j, j < of.length → badD S (of.getD j 0) = false := by
  unfold containsD indexD
  rw [loopR_find (c := indexD_c1 S of) (b := indexD_b1 S of) (fun j => badD S (of.getD j 0)) (fun j => (j : Int)) (fun j hj => by simp only [indexD_c1]; rw [decide_eq_true]; omega) (fun j hj => rfl)]
  cases hf : (List.range of.length).find? fun j => badD S (of.getD j 0) with
  | none =>
    refine ⟨fun _ j hj => ?_, fun _ => rfl⟩
    have := List.find?_eq_none.1 hf j (List.mem_range.2 hj)
    simpa using this
  | some i =>
    have h1 := List.find?_some hf
    have h2 := List.mem_range.1 (List.mem_of_find?_eq_some hf)
    refine ⟨fun h => ?_, fun h => ?_⟩
    · simp only [decide_eq_false_iff_not] at h; omega
    · rw [h i h2] at h1; cases h1
theorem sol_iff {b : DBook} (hv : ValidD b) {m : Nat} {cs : List Int} : SolC (setsB b) b.loads.length [] (List.replicate m 0) cs ↔ cs.length = b.loads.length ∧ (∀ c ∈ cs, 0 ≤ c ∧ c < (m : Int)) ∧ Goes b cs m := by
  unfold SolC
  rw [List.length_nil, Nat.zero_add, List.length_replicate]
  refine and_congr_right fun hl => and_congr_right fun hc => ?_
  rw [contains_iff, fin_len, List.length_replicate]
  unfold Goes
  refine forall_congr' fun j => forall_congr' fun hj => ?_
  rw [fin_get cs 0 _ j (by rw [List.length_replicate]; exact hc) (by rw [List.length_replicate]; exact hj)]
  have h0 : (List.replicate m (0 : Int)).getD j 0 = 0 := by
    rw [List.getD_eq_getElem?_getD, List.getElem?_replicate]; split <;> rfl
  rw [h0]
  obtain ⟨s, h1, h2, _⟩ := mask_spec (cs := cs) (by rw [hl]; exact hv.n.2) j
  rw [hl] at h1
  rw [h2]
  unfold badD
  rw [sets_at h1, Bool.or_eq_false_iff, beq_eq_false_iff_ne, Bool.not_eq_false']
theorem fewest_spec {b : DBook} (hv : ValidD b) : (∃ (m : Nat) (cs : List Int), (1 ≤ m ∧ m ≤ b.loads.length) ∧ fewestA b = (cs, 0) ∧ cs.length = b.loads.length ∧ (∀ c ∈ cs, 0 ≤ c ∧ c < (m : Int)) ∧ Goes b cs m ∧ (∀ ds : List Int, ds.length = b.loads.length → (∀ c ∈ ds, 0 ≤ c ∧ c < (m : Int)) → Goes b ds m → ¬ LexI ds cs) ∧ ∀ m' : Nat, 1 ≤ m' → m' < m → ∀ ds : List Int, ds.length = b.loads.length → (∀ c ∈ ds, 0 ≤ c ∧ c < (m' : Int)) → ¬ Goes b ds m') ∨ (fewestA b = ([], 4) ∧ ∀ m' : Nat, 1 ≤ m' → m' ≤ b.loads.length → ∀ ds : List Int, ds.length = b.loads.length → (∀ c ∈ ds, 0 ≤ c ∧ c < (m' : Int)) → ¬ Goes b ds m') := by
  have hn := hv.n
  have hsets : loopR (fewestA_c1 b) (fewestA_b1 b) (2 ^ b.loads.length) 0 ([] : List (Int × Bool)) = .brk (setsB b) := by
    rw [loopR_app (c := fewestA_c1 b) (b := fewestA_b1 b) (fun k : Nat => [((k : Int), togetherD b (k : Int))]) (fun k v hk => by simp only [fewestA_c1]; rw [all_wrap hv.n.2, decide_eq_true]; omega) (fun k v hk => rfl)]
    rw [← List.map_eq_flatMap]; rfl
  have hF : ∀ k : Nat, k < b.loads.length → FoundC (setsB b) b.loads.length [] (List.replicate (k + 1) 0) (crossD b (setsB b) b.loads.length [] (List.replicate (k + 1) 0)) := fun k _ => cross_found (setsB b) _ _ _ (by simp)
  have hw : ∀ k : Nat, k < b.loads.length → (IntKind.i64.wrap ((k : Int) + 1)).toNat = k + 1 := fun k hk => by rw [wrapI (by omega) (by omega)]; omega
  unfold fewestA
  rw [checkD_valid.2 hv, hsets]
  simp only [bne_self_eq_false, cond_false]
  rw [loopR_some (c := fewestA_c2 b (setsB b)) (b := fewestA_b2 b (setsB b)) (fun k : Nat => bif (crossD b (setsB b) b.loads.length [] (List.replicate (k + 1) 0)).2 then some ((crossD b (setsB b) b.loads.length [] (List.replicate (k + 1) 0)).1, (0 : Int)) else none) (fun k hk => by simp only [fewestA_c2]; rw [decide_eq_true]; omega) (fun k hk => by
    simp only [fewestA_b2]
    rw [hw k hk]
    cases (crossD b (setsB b) b.loads.length [] (List.replicate (k + 1) 0)).2 <;> rfl)]
  have hno : ∀ k : Nat, k < b.loads.length → (bif (crossD b (setsB b) b.loads.length [] (List.replicate (k + 1) 0)).2 then some ((crossD b (setsB b) b.loads.length [] (List.replicate (k + 1) 0)).1, (0 : Int)) else none) = none → ∀ ds : List Int, ds.length = b.loads.length → (∀ c ∈ ds, 0 ≤ c ∧ c < ((k + 1 : Nat) : Int)) → ¬ Goes b ds (k + 1) := fun k hk hnn ds h1 h2 h3 => by
    rcases hF k hk with ⟨cs, e, _⟩ | ⟨e, hnone⟩
    · rw [e] at hnn; cases hnn
    · exact hnone ds ((sol_iff hv).2 ⟨h1, h2, h3⟩)
  rcases range_first (fun k : Nat => bif (crossD b (setsB b) b.loads.length [] (List.replicate (k + 1) 0)).2 then some ((crossD b (setsB b) b.loads.length [] (List.replicate (k + 1) 0)).1, (0 : Int)) else none) b.loads.length with ⟨k, o, hk, ho, hbef, hfs⟩ | ⟨hnone, hfs⟩
  · left
    rw [hfs]
    rcases hF k hk with ⟨cs, e, hsol, hmin⟩ | ⟨e, _⟩
    · rw [e] at ho
      simp only [cond_true, Option.some.injEq, List.nil_append] at ho
      subst ho
      obtain ⟨s1, s2, s3⟩ := (sol_iff hv).1 hsol
      exact ⟨k + 1, cs, ⟨by omega, by omega⟩, rfl, s1, s2, s3, fun ds d1 d2 d3 => hmin ds ((sol_iff hv).2 ⟨d1, d2, d3⟩), fun m' h1 h2 ds d1 d2 d3 => by
        obtain ⟨q, rfl⟩ : ∃ q, m' = q + 1 := ⟨m' - 1, by omega⟩
        exact hno q (by omega) (hbef q (by omega)) ds d1 d2 d3⟩
    · simp only [e] at ho; cases ho
  · right
    rw [hfs]
    exact ⟨rfl, fun m' h1 h2 ds d1 d2 d3 => by
      obtain ⟨q, rfl⟩ : ∃ q, m' = q + 1 := ⟨m' - 1, by omega⟩
      exact hno q (by omega) (hnone q (by omega)) ds d1 d2 d3⟩
end Go.Proofs.YthfnedbpmdkdjaaDoor.D
namespace Go.Proofs.YthfnedbpmdkdjaaDoor.D
open Go Go.RowKit Go.Proofs.YthfnedbpmdkdjaaDoor.Eng Go.Proofs.YthfnedbpmdkdjaaDoor.Cm
set_option linter.unusedVariables false
set_option linter.unusedSimpArgs false
set_option linter.unusedSectionVars false
def bookW (b : DBook) (k : Nat) (x : Int) : DBook := ⟨b.loads.set k ⟨⟨x, x⟩, (b.loads.getD k zLoad).lanes⟩, b.rule, b.most⟩
theorem bookW_valid {b : DBook} (hv : ValidD b) {k : Nat} (hk : k < b.loads.length) {x : Int} (hx : (b.loads.getD k zLoad).w.lo ≤ x ∧ x ≤ (b.loads.getD k zLoad).w.hi) : ValidD (bookW b k x) := by
  refine ⟨by unfold bookW; simp only [List.length_set]; exact hv.n, hv.rule, hv.most, fun y hy => ?_⟩
  rcases List.mem_or_eq_of_mem_set hy with h | h
  · exact hv.loads y h
  · have := hv.load hk
    subst h
    simp only; omega
def wideW (b : DBook) (k : Nat) : Nat := ((b.loads.getD k zLoad).w.hi - (b.loads.getD k zLoad).w.lo + 1).toNat
def W (b : DBook) (k : Nat) : Int := (List.range (wideW b k)).foldl (fun (v : Int) (i : Nat) => mn v ((mostD (bookW b k ((b.loads.getD k zLoad).w.lo + (i : Int)))).length : Int)) (b.loads.length : Int)
theorem W_nonneg (b : DBook) (k : Nat) : 0 ≤ W b k := by
  unfold W
  have : ∀ (l : List Nat) (v : Int), 0 ≤ v → 0 ≤ l.foldl (fun (v : Int) (i : Nat) => mn v ((mostD (bookW b k ((b.loads.getD k zLoad).w.lo + (i : Int)))).length : Int)) v := by
    intro l
    induction l with
    | nil => intro v h; exact h
    | cons x l ih => intro v h; exact ih _ (by simp only [mn_spec]; omega)
  exact this _ _ (by omega)
theorem greatest_one (u v : Int) : greatestD u [v] = max u v := by
  unfold greatestD
  rw [loopR_foldl (c := greatestD_c1 u [v]) (b := greatestD_b1 u [v]) (fun k x => mx x ([v].getD k 0)) (fun k x hk => by simp only [greatestD_c1]; rw [decide_eq_true]; simp at hk; simp; omega) (fun k x hk => rfl)]
  show mx u v = _
  rw [mx_spec]
def openW (b : DBook) (k : Nat) : Prop := (b.loads.getD k zLoad).w.lo < (b.loads.getD k zLoad).w.hi
theorem weigh_spec {b : DBook} (hv : ValidD b) : (weighA b = (0, 4) ∧ ∀ j, j < b.loads.length → ¬ openW b j) ∨ ∃ j : Nat, j < b.loads.length ∧ openW b j ∧ weighA b = ((j : Int), 0) ∧ ∀ i, i < b.loads.length → openW b i → W b i ≤ W b j ∧ (i < j → W b i < W b j) := by
  have hn := hv.n
  unfold weighA
  rw [checkD_valid.2 hv]
  rcases loopR_keep (c := weighA_c1 b) (b := weighA_b1 b) (N := b.loads.length) (fun k v => (v = (-1, -1) ∧ ∀ j, j < k → ¬ openW b j) ∨ ∃ j : Nat, j < k ∧ openW b j ∧ v = (W b j, (j : Int)) ∧ ∀ i, i < k → openW b i → W b i ≤ W b j ∧ (i < j → W b i < W b j)) (fun _ => False) (fun k v hk _ => by obtain ⟨v1, v2⟩ := v; simp only [weighA_c1]; rw [decide_eq_true]; omega) (fun k v hk hp => by
    obtain ⟨v1, v2⟩ := v
    have hw := (hv.load hk).1
    have hw1 : IntKind.i64.wrap ((b.loads.getD k zLoad).w.hi - (b.loads.getD k zLoad).w.lo) = (b.loads.getD k zLoad).w.hi - (b.loads.getD k zLoad).w.lo := wrapI (by omega) (by omega)
    have hw2 : IntKind.i64.wrap ((b.loads.getD k zLoad).w.hi - (b.loads.getD k zLoad).w.lo + 1) = (b.loads.getD k zLoad).w.hi - (b.loads.getD k zLoad).w.lo + 1 := wrapI (by omega) (by omega)
    left
    simp only [weighA_b1]
    rw [hw1, hw2]
    by_cases ho : openW b k
    · have ho' : (b.loads.getD k zLoad).w.lo < (b.loads.getD k zLoad).w.hi := ho
      rw [show ((b.loads.getD k zLoad).w.hi - (b.loads.getD k zLoad).w.lo == 0) = false from beq_eq_false_iff_ne.2 (by omega), cond_false]
      have hin : loopR (weighA_c2 b k v1 v2) (weighA_b2 b k v1 v2) ((b.loads.getD k zLoad).w.hi - (b.loads.getD k zLoad).w.lo + 1).toNat 0 (b.loads.length : Int) = .brk (W b k) := by
        rw [loopR_foldl (c := weighA_c2 b k v1 v2) (b := weighA_b2 b k v1 v2) (fun (i : Nat) (v : Int) => mn v ((mostD (bookW b k ((b.loads.getD k zLoad).w.lo + (i : Int)))).length : Int)) (fun i v hi => by
          simp only [weighA_c2]
          rw [hw1, hw2, decide_eq_true]; omega) (fun i v hi => by
          simp only [weighA_b2, cloneL]
          rw [wrapI (x := (b.loads.getD k zLoad).w.lo + (i : Int)) (by omega) (by omega)]
          rfl)]
        rfl
      rw [hin]
      simp only
      rw [greatest_one]
      have hW := W_nonneg b k
      rcases hp with ⟨h1, h2⟩ | ⟨j, h1, h2, h3, h4⟩
      · cases h1
        rw [decide_eq_true (show max (W b k) (-1) > -1 by omega)]
        exact ⟨_, rfl, .inr ⟨k, by omega, ho, rfl, fun i hi hoi => by
          by_cases e : i = k
          · subst e; exact ⟨Int.le_refl _, fun h => by omega⟩
          · exact absurd hoi (h2 i (by omega))⟩⟩
      · cases h3
        by_cases hgt : W b k > W b j
        · rw [decide_eq_true (show max (W b k) (W b j) > W b j by omega)]
          exact ⟨_, rfl, .inr ⟨k, by omega, ho, rfl, fun i hi hoi => by
            by_cases e : i = k
            · subst e; exact ⟨Int.le_refl _, fun h => by omega⟩
            · have := h4 i (by omega) hoi; omega⟩⟩
        · rw [decide_eq_false (show ¬ max (W b k) (W b j) > W b j by omega)]
          exact ⟨_, rfl, .inr ⟨j, by omega, h2, rfl, fun i hi hoi => by
            by_cases e : i = k
            · subst e; omega
            · exact h4 i (by omega) hoi⟩⟩
    · have ho' : ¬ (b.loads.getD k zLoad).w.lo < (b.loads.getD k zLoad).w.hi := ho
      rw [show ((b.loads.getD k zLoad).w.hi - (b.loads.getD k zLoad).w.lo == 0) = true from beq_iff_eq.2 (by omega), cond_true]
      refine ⟨_, rfl, ?_⟩
      rcases hp with ⟨h1, h2⟩ | ⟨j, h1, h2, h3, h4⟩
      · exact .inl ⟨h1, fun i hi => by
          by_cases e : i = k
          · rw [e]; exact ho
          · exact h2 i (by omega)⟩
      · exact .inr ⟨j, by omega, h2, h3, fun i hi hoi => by
          by_cases e : i = k
          · subst e; exact absurd hoi ho
          · exact h4 i (by omega) hoi⟩) (-1, -1) (.inl ⟨rfl, fun j hj => by omega⟩) with ⟨v, e, hp⟩ | ⟨r, e, hf⟩
  · rw [e]
    rcases hp with ⟨h1, h2⟩ | ⟨j, h1, h2, h3, h4⟩
    · left; rw [h1]; exact ⟨rfl, h2⟩
    · right
      refine ⟨j, h1, h2, ?_, h4⟩
      rw [h3]
      simp only [bne_self_eq_false, cond_false]
      rw [decide_eq_false (show ¬ (j : Int) < 0 by omega)]; rfl
  · exact hf.elim
end Go.Proofs.YthfnedbpmdkdjaaDoor.D
namespace Go.Proofs.YthfnedbpmdkdjaaDoor.D
open Go Go.RowKit Go.Proofs.YthfnedbpmdkdjaaDoor.Eng Go.Proofs.YthfnedbpmdkdjaaDoor.Cm
set_option linter.unusedVariables false
set_option linter.unusedSimpArgs false
set_option linter.unusedSectionVars false
theorem alike_self (l : List Int) : alikeF l l = true := by
  unfold alikeF
  rw [show ((l.length : Int) != (l.length : Int)) = false by simp]
  rw [loopR_find (fun _ => false) (fun _ => false) (fun k hk => by simp only [alikeF_c1]; rw [decide_eq_true]; omega) (fun k hk => by simp only [alikeF_b1]; simp)]
  have : (List.range l.length).find? (fun _ => false) = none := List.find?_eq_none.2 fun x _ h => by cases h
  rw [this]; rfl
theorem foldl_cg {α β : Type} {f g : β → α → β} : ∀ {l : List α} {v : β}, (∀ v, ∀ k ∈ l, f v k = g v k) → l.foldl f v = l.foldl g v
  | [], _, _ => rfl
  | x :: xs, v, h => by
    rw [List.foldl_cons, List.foldl_cons, h v x (List.mem_cons_self ..)]
    exact foldl_cg fun v k hk => h v k (List.mem_cons_of_mem _ hk)
def flipP (x : Place) : Place := ⟨x.load, 2 - x.lane⟩
theorem flips_all : ((List.range 8).all fun m : Nat => m == 0 || (decide (1 ≤ flippedL (m : Int) ∧ flippedL (m : Int) ≤ 7) && (List.range 3).all fun l : Nat => laneB ⟨zSpan, flippedL (m : Int)⟩ (2 - (l : Int)) == laneB ⟨zSpan, (m : Int)⟩ (l : Int))) = true := by kernel_rfl
theorem flip_lanes {m : Int} (hm : 1 ≤ m ∧ m ≤ 7) : (1 ≤ flippedL m ∧ flippedL m ≤ 7) ∧ ∀ l : Int, 0 ≤ l → l < 3 → laneB ⟨zSpan, flippedL m⟩ (2 - l) = laneB ⟨zSpan, m⟩ l := by
  have h := List.all_eq_true.1 flips_all m.toNat (List.mem_range.2 (by omega))
  rw [show ((m.toNat : Nat) : Int) = m by omega, show (m.toNat == 0) = false from beq_eq_false_iff_ne.2 (by omega), Bool.false_or, Bool.and_eq_true] at h
  refine ⟨of_decide_eq_true h.1, fun l h1 h2 => ?_⟩
  have h3 := List.all_eq_true.1 h.2 l.toNat (List.mem_range.2 (by omega))
  rw [show ((l.toNat : Nat) : Int) = l by omega] at h3
  exact eq_of_beq h3
structure FlipOf (b x : DBook) : Prop where
  vb : ValidD b
  vx : ValidD x
  n : x.loads.length = b.loads.length
  ld : ∀ k, k < b.loads.length → (x.loads.getD k zLoad).w = (b.loads.getD k zLoad).w ∧ ∀ l : Int, 0 ≤ l → l < 3 → laneB (x.loads.getD k zLoad) (2 - l) = laneB (b.loads.getD k zLoad) l
  rule : x.rule = b.rule
  most : x.most = b.most
theorem FlipOf.symm {b x : DBook} (h : FlipOf b x) : FlipOf x b := ⟨h.vx, h.vb, h.n.symm, fun k hk => ⟨(h.ld k (by rw [← h.n]; exact hk)).1.symm, fun l h1 h2 => by
  have := (h.ld k (by rw [← h.n]; exact hk)).2 (2 - l) (by omega) (by omega)
  rw [show 2 - (2 - l) = l by omega] at this
  exact this.symm⟩, h.rule.symm, h.most.symm⟩
theorem flip_loads (on : List Place) : (on.map flipP).map (·.load) = on.map (·.load) := by
  rw [List.map_map]; rfl
theorem flip_pl {b x : DBook} (h : FlipOf b x) {i l : Int} (hb : isPl b i l = true) : isPl x i (2 - l) = true := by
  have hs := isPl_spec hb
  unfold isPl
  rw [decide_eq_true hs.1.1, decide_eq_true (show i < (x.loads.length : Int) by rw [h.n]; exact hs.1.2), decide_eq_true (show 0 ≤ 2 - l by omega), decide_eq_true (show 2 - l < 3 by omega), (h.ld i.toNat (by omega)).2 l (by omega) (by omega), hs.2.2]
  rfl
theorem flip_pls {b x : DBook} (h : FlipOf b x) {on : List Place} (hb : ∀ y ∈ on, isPl b y.load y.lane = true) : ∀ y ∈ on.map flipP, isPl x y.load y.lane = true := fun y hy => by
  obtain ⟨z, hz, rfl⟩ := List.mem_map.1 hy
  exact flip_pl h (hb z hz)
theorem flip_getD (on : List Place) {k : Nat} (hk : k < on.length) : (on.map flipP).getD k zPlace = flipP (on.getD k zPlace) := by
  rw [List.getD_eq_getElem?_getD, List.getElem?_map, List.getD_eq_getElem?_getD, List.getElem?_eq_getElem hk]; rfl
theorem flip_acc {b x : DBook} (h : FlipOf b x) {on : List Place} (hpl : ∀ y ∈ on, isPl b y.load y.lane = true) (hlen : on.length ≤ 5) : ∀ k : Nat, k ≤ on.length → accD x (on.map flipP) k = ⟨-(accD b on k).hi, -(accD b on k).lo⟩ := by
  intro k
  induction k with
  | zero => intro _; rfl
  | succ k ih =>
    intro hk
    have hi := ih (by omega)
    have hB := acc_bounds h.vb hpl hlen k (by omega)
    have hs := isPl_spec (hpl _ (getD_mem (z := zPlace) (show k < on.length by omega)))
    have hw := (h.vb.load (k := (on.getD k zPlace).load.toNat) (by omega)).1
    have hn := (h.ld (on.getD k zPlace).load.toNat (by omega)).1
    rw [accD_succ (by rw [List.length_map]; omega), accD_succ (by omega), hi, flip_getD on (by omega)]
    unfold stepD laneF flipP
    simp only
    rw [hn]
    by_cases e0 : (on.getD k zPlace).lane = 0
    · rw [if_pos e0, if_neg (by omega), if_neg (by omega)]
      simp only [portD, starD]
      rw [wrapI (by omega) (by omega), wrapI (by omega) (by omega), wrapI (by omega) (by omega), wrapI (by omega) (by omega)]
      congr 1 <;> omega
    · rw [if_neg e0]
      by_cases e1 : (on.getD k zPlace).lane = 1
      · rw [if_pos e1, if_neg (by omega), if_pos (by omega)]; rfl
      · rw [if_neg e1, if_pos (by omega)]
        simp only [portD, starD]
        rw [wrapI (by omega) (by omega), wrapI (by omega) (by omega), wrapI (by omega) (by omega), wrapI (by omega) (by omega)]
        congr 1 <;> omega
theorem flip_level {b x : DBook} (h : FlipOf b x) {l : Span} (hl : l.lo ≤ l.hi) : levelD x ⟨-l.hi, -l.lo⟩ = levelD b l := by
  have hr := h.rule
  rcases level_cases h.vb hl with ⟨e, h1⟩ | ⟨e, h1⟩ | ⟨e, h1⟩ <;> rcases level_cases h.vx (l := ⟨-l.hi, -l.lo⟩) (by simp only; omega) with ⟨e', h2⟩ | ⟨e', h2⟩ | ⟨e', h2⟩ <;> rw [e, e'] <;> (simp only at h2; exfalso; omega)
theorem flip_sure {b x : DBook} (h : FlipOf b x) {on : List Place} (hpl : ∀ y ∈ on, isPl b y.load y.lane = true) (hlen : on.length ≤ 5) {k : Nat} (hk : k ≤ on.length) : levelD x (accD x (on.map flipP) k) = levelD b (accD b on k) := by
  rw [flip_acc h hpl hlen k hk]
  exact flip_level h (acc_bounds h.vb hpl hlen k hk).2.1
theorem flip_way {b x : DBook} (h : FlipOf b x) {s : Nat} {ys : List Place} (hw : Way b s ys) : Way x s (ys.map flipP) := by
  have hlen := set_len h.vb hw.2.2
  refine ⟨flip_pls h hw.1, (sure_take _ zSpan).2 fun k hk => ?_, by rw [flip_loads]; exact hw.2.2⟩
  rw [List.length_map] at hk
  have h1 : decide (levelD b (accD b ys (k + 1)) < 2) = false := (sure_take ys zSpan).1 hw.2.1 k hk
  show decide (levelD x (accD x (ys.map flipP) (k + 1)) < 2) = false
  rw [flip_sure h hw.1 hlen (by omega)]; exact h1
theorem flip_weight {b x : DBook} (h : FlipOf b x) (s : Int) : weightD x s = weightD b s := by
  rw [weight_eq, weight_eq, h.n]
  refine foldl_cg fun v k hk => ?_
  rw [(h.ld k (List.mem_range.1 hk)).1]
theorem flip_together {b x : DBook} (h : FlipOf b x) {s : Nat} (hs : s < 2 ^ b.loads.length) : togetherD x (s : Int) = togetherD b (s : Int) := by
  rw [Bool.eq_iff_iff, together_iff h.vb hs, together_iff h.vx (by rw [h.n]; exact hs), flip_weight h, h.most]
  exact ⟨fun ⟨h1, ys, h2⟩ => ⟨h1, _, flip_way h.symm h2⟩, fun ⟨h1, ys, h2⟩ => ⟨h1, _, flip_way h h2⟩⟩
theorem flip_mostD {b x : DBook} (h : FlipOf b x) : mostD x = mostD b := by
  unfold mostD mostK
  rw [h.n]
  refine foldl_cg fun v k hk => ?_
  rw [flip_together h (List.mem_range.1 hk), listed_eq, listed_eq, h.n]
theorem flip_most {b x : DBook} (h : FlipOf b x) : mostA x = mostA b := by
  rw [mostA_ok h.vb, mostA_ok h.vx, flip_mostD h]
theorem flip_never {b x : DBook} (h : FlipOf b x) : neverA x = neverA b := by
  rw [never_eq (checkD_valid.2 h.vb), never_eq (checkD_valid.2 h.vx)]
  have hs : someD x = someD b := by
    unfold someD
    rw [h.n]
    refine foldl_cg fun v k hk => ?_
    rw [flip_together h (List.mem_range.1 hk)]
  rw [hs, listed_eq, listed_eq]
  unfold allD
  rw [h.n]
theorem goes_sub {b x : DBook} (h : FlipOf b x) {cs : List Int} {m : Nat} (hl : cs.length = b.loads.length) (hg : Goes b cs m) : Goes x cs m := fun j hj => by
  obtain ⟨s, s1, s2, _⟩ := mask_spec (cs := cs) (by rw [hl]; exact h.vb.n.2) j
  rw [hl] at s1
  have := hg j hj
  rw [s2] at this ⊢
  exact ⟨this.1, by rw [flip_together h s1]; exact this.2⟩
theorem lexI_total : ∀ (l m : List Int), l.length = m.length → ¬ LexI l m → ¬ LexI m l → l = m
  | [], [], _, _, _ => rfl
  | [], _ :: _, h, _, _ => by simp at h
  | _ :: _, [], h, _, _ => by simp at h
  | x :: xs, y :: ys, h, h1, h2 => by
    simp only [LexI, not_or] at h1 h2
    have : x = y := by omega
    subst this
    rw [lexI_total xs ys (by simpa using h) (fun h3 => h1.2 ⟨rfl, h3⟩) (fun h3 => h2.2 ⟨rfl, h3⟩)]
theorem flip_fewest {b x : DBook} (h : FlipOf b x) : fewestA x = fewestA b := by
  have hn := h.n
  rcases fewest_spec h.vb with ⟨m, cs, hm, e, hl, hc, hg, hleast, hsmall⟩ | ⟨e, hno⟩
  · rcases fewest_spec h.vx with ⟨m2, cs2, hm2, e2, hl2, hc2, hg2, hleast2, hsmall2⟩ | ⟨e2, hno2⟩
    · have hg' : Goes x cs m := goes_sub h hl hg
      have hg2' : Goes b cs2 m2 := goes_sub h.symm (by rw [hl2]) hg2
      have hmm : m = m2 := by
        by_cases h1 : m < m2
        · exact absurd hg' (hsmall2 m hm.1 h1 cs (by rw [hl, hn]) hc)
        · by_cases h2 : m2 < m
          · exact absurd hg2' (hsmall m2 hm2.1 h2 cs2 (by rw [hl2, hn]) hc2)
          · omega
      subst hmm
      rw [e, e2, lexI_total cs2 cs (by rw [hl, hl2, hn]) (hleast cs2 (by rw [hl2, hn]) hc2 hg2') (hleast2 cs (by rw [hl, hn]) hc hg')]
    · exact absurd (goes_sub h hl hg) (hno2 m hm.1 (by omega) cs (by rw [hl, hn]) hc)
  · rcases fewest_spec h.vx with ⟨m2, cs2, hm2, e2, hl2, hc2, hg2, hleast2, hsmall2⟩ | ⟨e2, hno2⟩
    · exact absurd (goes_sub h.symm (by rw [hl2]) hg2) (hno m2 hm2.1 (by omega) cs2 (by rw [hl2, hn]) hc2)
    · rw [e, e2]
theorem set_getD (l : List Load) (k j : Nat) (y : Load) (hk : k < l.length) : (l.set k y).getD j zLoad = if k = j then y else l.getD j zLoad := by
  rw [List.getD_eq_getElem?_getD, List.getElem?_set]
  by_cases e : k = j
  · subst e; rw [if_pos rfl, if_pos rfl, if_pos hk]; rfl
  · rw [if_neg e, if_neg e, ← List.getD_eq_getElem?_getD]
theorem flip_bookW {b x : DBook} (h : FlipOf b x) {k : Nat} (hk : k < b.loads.length) {v : Int} (hv : (b.loads.getD k zLoad).w.lo ≤ v ∧ v ≤ (b.loads.getD k zLoad).w.hi) : FlipOf (bookW b k v) (bookW x k v) := by
  have hw := (h.ld k hk).1
  refine ⟨bookW_valid h.vb hk hv, bookW_valid h.vx (by rw [h.n]; exact hk) (by rw [hw]; exact hv), by unfold bookW; simp [h.n], fun j hj => ?_, h.rule, h.most⟩
  have hj' : j < b.loads.length := by unfold bookW at hj; simpa using hj
  unfold bookW
  simp only
  rw [set_getD _ _ _ _ hk, set_getD _ _ _ _ (by rw [h.n]; exact hk)]
  by_cases e : k = j
  · rw [if_pos e, if_pos e]
    exact ⟨rfl, fun l h1 h2 => (h.ld k hk).2 l h1 h2⟩
  · rw [if_neg e, if_neg e]; exact h.ld j hj'
theorem flip_W {b x : DBook} (h : FlipOf b x) {k : Nat} (hk : k < b.loads.length) : W x k = W b k := by
  have hw := (h.ld k hk).1
  have hv := (h.vb.load hk).1
  unfold W wideW
  rw [hw, h.n]
  refine foldl_cg fun v i hi => ?_
  have := List.mem_range.1 hi
  rw [flip_mostD (flip_bookW h hk (by omega))]
theorem flip_weigh {b x : DBook} (h : FlipOf b x) : weighA x = weighA b := by
  have ho : ∀ j, j < b.loads.length → (openW x j ↔ openW b j) := fun j hj => by unfold openW; rw [(h.ld j hj).1]
  have hn := h.n
  rcases weigh_spec h.vb with ⟨e, h1⟩ | ⟨j, hj, hoj, e, h1⟩ <;> rcases weigh_spec h.vx with ⟨e2, h2⟩ | ⟨i, hi, hoi, e2, h2⟩
  · rw [e, e2]
  · exact absurd ((ho i (by omega)).1 hoi) (h1 i (by omega))
  · exact absurd ((ho j hj).2 hoj) (h2 j (by omega))
  · have a := h1 i (by omega) ((ho i (by omega)).1 hoi)
    have c := h2 j (by omega) ((ho j hj).2 hoj)
    rw [flip_W h hj, flip_W h (show i < b.loads.length by omega)] at c
    have : i = j := by
      rcases Nat.lt_trichotomy i j with h3 | h3 | h3
      · have := a.2 h3; omega
      · exact h3
      · have := c.2 h3; omega
    rw [e, e2, this]
theorem flip_ok {b x : DBook} (h : FlipOf b x) {on : List Place} (ho : StowOk b on) : StowOk x (on.map flipP) := ⟨flip_pls h ho.1, by rw [flip_loads]; exact ho.2⟩
theorem flip_tilts {b x : DBook} (h : FlipOf b x) {on : List Place} (ho : StowOk b on) (hlen : on.length ≤ 5) : tiltsA x (on.map flipP) = tiltsA b on := by
  rw [tiltsA_eq h.vb ho, tiltsA_eq h.vx (flip_ok h ho)]
  have hS : ∀ j, j < on.length → levelD x (accD x (on.map flipP) (j + 1)) = levelD b (accD b on (j + 1)) := fun j hj => flip_sure h ho.1 hlen (by omega)
  have hl : (on.map flipP).length = on.length := List.length_map ..
  cases e : tiltQ b on with
  | none =>
    cases e2 : tiltQ x (on.map flipP) with
    | none => rfl
    | some y =>
      obtain ⟨i, h1, h2, h3, h4⟩ := tilt_first e2
      rw [hS i (by omega), tilt_no e i (by omega)] at h3; cases h3
  | some z =>
    obtain ⟨k, g1, g2, g3, g4⟩ := tilt_first e
    cases e2 : tiltQ x (on.map flipP) with
    | none =>
      have := tilt_no e2 k (by omega)
      rw [hS k g1, g3] at this; cases this
    | some y =>
      obtain ⟨i, h1, h2, h3, h4⟩ := tilt_first e2
      have : i = k := by
        rcases Nat.lt_trichotomy i k with h5 | h5 | h5
        · have := g4 i h5; rw [hS i (by omega), this] at h3; cases h3
        · exact h5
        · have := h4 k h5; rw [hS k g1, g3] at this; cases this
      simp only
      rw [h2, g2, this]
end Go.Proofs.YthfnedbpmdkdjaaDoor.D
