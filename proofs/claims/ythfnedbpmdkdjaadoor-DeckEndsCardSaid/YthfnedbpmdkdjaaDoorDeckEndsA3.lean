/- Parts of the proof of DeckEnds: the engine, contracts of functions, plain lemmas. -/
import Derived.Test.YthfnedbpmdkdjaaDoorDeckEndsA2
import Derived.ArgAppend
import Derived.Below
import Derived.Carry
import Derived.ChangeKeysEq
import Derived.ControlIn
import Derived.Deep.DeepHandedRow
import Derived.Deep.Draws
import Derived.Deep.Quiet
import Derived.Deep.Slices
import Derived.KernelRfl
import Derived.Laws.AppendOwn
import Derived.Laws.Cells
import Derived.Laws.CopyRow
import Derived.Laws.IdiomRangeMap
import Derived.Laws.OwnMore
import Derived.Laws.Rows
import Derived.MapKept
import Derived.Maps.AppendAt
import Derived.OpenShut
import Derived.OrdersHeld
import Derived.OrdersIn
import Derived.ProofKit
import Derived.RangeFuncLeaves
import Derived.RangeFuncNested
import Derived.RangeFuncOwn
import Derived.SizedLaws
import Derived.Test.YthfnedbpmdkdjaaDoorProg
import Derived.Test.YthfnedbpmdkdjaaDoorRows
import Derived.WalkKit
import Derived.WideKeyRuns
namespace Go.Proofs.YthfnedbpmdkdjaaDoor.D
open Go Go.RowKit Go.Proofs.YthfnedbpmdkdjaaDoor.Eng Go.Proofs.YthfnedbpmdkdjaaDoor.Cm
set_option linter.unusedVariables false
set_option linter.unusedSimpArgs false
set_option linter.unusedSectionVars false
def crossD (b : DBook) (S : List (Int × Bool)) : Nat → List Int → List Int → List Int × Bool
  | 0 => crossS b S fun _ _ => ([], false)
  | r + 1 => crossS b S (crossD b S r)
theorem cross_ok {b : DBook} (S : List (Int × Bool)) (hb5 : b.loads.length ≤ 5) (sv : Value) (gx gt gs gc : Nat) : ∀ r : Nat, CrossC b S sv gx gt gs gc (fun n m => n + r = b.loads.length ∧ m ≤ 5) (crossD b S r) := by
  intro r
  induction r with
  | zero =>
    intro tv uv so of w hR rb rs ro hx hs hc hms
    exact crossS_calls b S (fun _ _ => ([], false)) (fun _ _ => False) so of sv tv uv gx gt gs gc w rb rs ro hx hs hc hms hb5 (by omega) hR.2 (fun _ _ _ _ _ h => h.elim) (fun h => by omega)
  | succ r ih =>
    intro tv uv so of w hR rb rs ro hx hs hc hms
    exact crossS_calls b S (crossD b S r) (fun n m => n + r = b.loads.length ∧ m ≤ 5) so of sv tv uv gx gt gs gc w rb rs ro hx hs hc hms hb5 (by omega) hR.2 ih (fun h => ⟨by omega, hR.2⟩)
theorem cross_top {b : DBook} (S : List (Int × Bool)) (hb5 : b.loads.length ≤ 5) (a0 uv x t c cl : Value) (gx gt gs gc : Nat) (of : List Int) (w : World) (hof : of.length ≤ 5) (rb : Reads w a0 3 b.loads encLoad zLoad) (ro : Reads w uv 1 of encI 0) (hms : w.heap[gs]? = some (.map (ents S stKey stVal) S.length)) (hx : x = .pointer (some ⟨gx, 0, none⟩)) (ht : t = .pointer (some ⟨gt, 0, none⟩)) (hc : c = .pointer (some ⟨gc, 0, none⟩))
    (hxh : w.heap[gx]? = some (.cells #[a0, iv b.rule, iv b.most] 24 (0, 0))) (hth : w.heap[gt]? = some (.cells #[.map (some gs)] 109 (0, 0))) (hcl : cl = .func (.func 98) #[] #[ptrAt x 0, ptrAt t 0, ptrAt c 0]) (hch : w.heap[gc]? = some (.cells #[cl] 112 (0, 0))) :
    Calls Tryd.prog 98 #[.slice none 0 0, uv, ptrAt x 0, ptrAt t 0, ptrAt c 0] w fun e w' => ∃ v, e = .returned (.tuple #[v, .bool (crossD b S b.loads.length [] of).2]) ∧ Below w.heap.size w w' ∧ Reads w' v 1 (crossD b S b.loads.length [] of).1 encI 0 ∧ (∀ g, vblk v = some g → w.heap.size ≤ g ∧ g < w'.heap.size) := by
  subst hx ht hc
  simp only [ptrAt, Nat.add_zero] at *
  subst hcl
  have h5 := cross_ok S hb5 a0 gx gt gs gc b.loads.length (.slice none 0 0) uv [] of w ⟨by simp, hof⟩ rb reads_nil ro hxh hth hch hms
  exact h5.mono fun e w' ⟨v, h1, h2, h3, h4⟩ => ⟨v, h1, h2, h3, fun g hg => (h4 g hg).resolve_left (fun h => by cases h)⟩
def fewestA_c1 (b : DBook) (k1 : Nat) : (List (Int × Bool)) → Bool := fun v1_1 => decide ((k1 : Int) < (IntKind.i64.wrap ((allD b) + 1)))
def fewestA_b1 (b : DBook) (k1 : Nat) : (List (Int × Bool)) → Bd (List (Int × Bool)) ((List Int) × Int) := fun v1_1 => .go (v1_1 ++ [(((k1 : Int), (togetherD b (k1 : Int))) : Int × Bool)])
def fewestA_c2 (b : DBook) (u1_0 : List (Int × Bool)) (k2 : Nat) : Unit → Bool := fun _ => decide ((k2 : Int) < (b.loads.length : Int))
def fewestA_b2 (b : DBook) (u1_0 : List (Int × Bool)) (k2 : Nat) : Unit → Bd Unit ((List Int) × Int) := fun _ => (bif (crossD b u1_0 b.loads.length [] (List.replicate (IntKind.i64.wrap ((k2 : Int) + 1)).toNat 0)).2 then .ret ((crossD b u1_0 b.loads.length [] (List.replicate (IntKind.i64.wrap ((k2 : Int) + 1)).toNat 0)).1, 0) else .go ())
def fewestA (b : DBook) : (List Int) × Int :=
  (bif (checkD b) != 0 then ([], (checkD b)) else (match loopR (fewestA_c1 b) (fewestA_b1 b) (2 ^ b.loads.length) 0 ([] : List (Int × Bool)) with | .brk u1_0 => (match loopR (fewestA_c2 b u1_0) (fewestA_b2 b u1_0) b.loads.length 0 () with | .brk () => ([], 4) | .ret r => r) | .ret r => r))
theorem fewestA_calls (g0 : Value) (b : DBook) (w : World) (r0 : Reads w g0 3 b.loads encLoad zLoad) (hnb : NobodyAt w) (hla : LanesAt w) : Calls Tryd.prog 46 #[.agg #[g0, iv b.rule, iv b.most]] w fun e w' => ∃ v0, e = .returned (.tuple #[v0, iv (fewestA b).2]) ∧ Below w.heap.size w w' ∧ Reads w' v0 1 (fewestA b).1 encI 0 ∧ (∀ g, vblk v0 = some g → w.heap.size ≤ g ∧ g < w'.heap.size) := by
  refine calls_of_WP (cx := cx0 w (vn [g0]) 1) (n := vn [g0]) (vs := [.g [.ref 0, .int .i64 b.rule, .int .i64 b.most]]) (hp := [(0, .sl .ro 61 3 b.loads encLoad zLoad), (1, .pf NobodyAt (· = 1)), (2, .pf LanesAt (· = 0))]) (nx := 3) tt_ok Tryd.func46 rfl rfl rfl (by kernel_rfl) (HSat_args (vn_one (by simp [r0.one])) (by decide) ⟨⟨⟨fun _ => rfl, by decide, r0⟩, (Nat.le_of_ble_eq_true rfl)⟩, ⟨⟨hnb, fun w1 w2 h1 hw => (hw 1 rfl).trans h1, fun g hg => by cases hg; exact (Array.getElem?_eq_some_iff.1 hnb).1⟩, (Nat.le_of_ble_eq_true rfl)⟩, ⟨⟨hla, fun w1 w2 h1 hw => (hw 0 rfl).trans h1, fun g hg => by cases hg; exact (Array.getElem?_eq_some_iff.1 hla).1⟩, (Nat.le_of_ble_eq_true rfl)⟩, trivial⟩) (vsOk (by kernel_rfl)) ?_
  have hl0 := Reads.len r0
  refine WP_seq (WP_region (WPO_all tt_ok (by kernel_rfl) ?_))
  refine WP_seq (WP_seq (WP_region (WPO_run tt_ok 1 (by kernel_rfl) ?_)))
  refine CALL 66 [.g [.ref 0, .int .i64 b.rule, .int .i64 b.most]] (.s (.int .i64 (checkD b))) [] (by kernel_rfl) (goes_of (by kernel_rfl)) (by kernel_rfl) (by kernel_rfl) (fun _ nV w h => checkD_calls (nV 0) b w (h.reads (id := 0) (kd := .ro) (e := 61) (by kernel_rfl)) ) ?_
  refine WPO_all tt_ok (by kernel_rfl) ?_
  refine WP_seq (WP_region (WPO_all tt_ok (by kernel_rfl) ?_))
  refine WP_cond ((checkD b) != 0) (by kernel_rfl) (fun hc2 => ?_) (fun hc2 => ?_)
  · have hc2' := hc2; try simp only [Bool.and_eq_true, Bool.or_eq_true, Bool.and_eq_false_iff, Bool.or_eq_false_iff, Bool.not_eq_true', Bool.not_eq_false', decide_eq_true_eq, decide_eq_false_iff_not, beq_iff_eq, beq_eq_false_iff_ne, bne_iff_ne, bne_eq_false_iff_eq, ne_eq] at hc2'
    refine WP_seq (WP_region (WPO_all tt_ok (by kernel_rfl) ?_))
    refine WP_ret ?_
    exact ⟨.t [(false, [.v (.slice none 0 0)]), (false, [.int .i64 (checkD b)])], by kernel_rfl, fun nV w' h => ⟨.slice none 0 0, by rw [show fewestA b = ([], (checkD b)) from by unfold fewestA; simp only [hc2, cond_true, cond_false]]; rfl, h.bel, by rw [show fewestA b = ([], (checkD b)) from by unfold fewestA; simp only [hc2, cond_true, cond_false]]; exact reads_nil, fun g hg => by cases hg⟩⟩
  have hc2' := hc2; try simp only [Bool.and_eq_true, Bool.or_eq_true, Bool.and_eq_false_iff, Bool.or_eq_false_iff, Bool.not_eq_true', Bool.not_eq_false', decide_eq_true_eq, decide_eq_false_iff_not, beq_iff_eq, beq_eq_false_iff_ne, bne_iff_ne, bne_eq_false_iff_eq, ne_eq] at hc2'
  refine WP_skip ?_
  have hv : ValidD b := checkD_valid.1 (bne_eq_false_iff_eq.1 (by assumption))
  have hb5 := hv.n.2
  have hpw := all_wrap hb5
  have hpl := pow_le5 hb5
  refine WP_seq (WP_region (WPO_run tt_ok 1 (by kernel_rfl) ?_))
  refine CALLMAP 90 [.g [.ref 0, .int .i64 b.rule, .int .i64 b.most]] (plL b) plKey plVal (fun gM1 => .g [.ref 0, .int .i64 b.rule, .int .i64 b.most, .v (.map (some gM1))]) (by kernel_rfl) (goes_of (by kernel_rfl)) (fun _ => (by kernel_rfl)) (fun _ => (by kernel_rfl)) (fun _ n n' h => by simp only [AV.c, cellsV, part1, AC.c, List.map_cons, List.map_nil, h 0 (by show 0 < 4; decide)]) (fun nV w h => opened_plL (nV 0) b w (h.reads (id := 0) (kd := .ro) (e := 61) (by kernel_rfl)) (h.ents (1, .pf NobodyAt (· = 1)) (fnd_mem (by kernel_rfl))).1 (by first | assumption | omega)) (fun gM1 => ?_)
  refine WPO_all tt_ok (by kernel_rfl) ?_
  refine WP_seq (WP_region (MKMg (κ := (Int × Bool)) stKey stVal (some 19) (by kernel_rfl) (fun _ => (by kernel_rfl)) (fun gM2 => ?_)))
  refine WPO_all tt_ok (by kernel_rfl) ?_
  refine WP_seq (WP_seq (WP_region (WPO_run tt_ok 1 (by kernel_rfl) ?_)))
  refine CALL 96 [.g [.ref 0, .int .i64 b.rule, .int .i64 b.most, .v (.map (some gM1))]] (.s (.int .i64 (allD b))) [] (by kernel_rfl) (goes_of (by kernel_rfl)) (by kernel_rfl) (by kernel_rfl) (fun _ nV w h => allD_calls (nV 0) gM1 b w (h.reads (id := 0) (kd := .ro) (e := 61) (by kernel_rfl)) (h.ents (4, mapE gM1 (plL b) plKey plVal) (fnd_mem (by kernel_rfl))).1 (by first | assumption | omega)) ?_
  refine WPO_all tt_ok (by kernel_rfl) ?_
  refine WP_loopA (ρ := (List Int) × Int) (fewestA_c1 b) (fewestA_b1 b) (2 ^ b.loads.length) ([] : List (Int × Bool)) (fun k : Nat => (k : Int)) (fun (ci : Int) (zz : (List (Int × Bool))) => ⟨55, [(23, [], .s (.int .i64 ci)), (22, [], .s (.int .i64 (IntKind.i64.wrap ((allD b) + 1)))), (6, [], .s (.p 7 0)), (5, [], .s (.p 5 0)), (1, [], .s (.p 3 0))], [(7, .box 109 [.v (.map (some gM2))]), (6, mapE gM2 zz stKey stVal), (5, .box 94 [.ref 0, .int .i64 b.rule, .int .i64 b.most, .v (.map (some gM1))]), (4, mapE gM1 (plL b) plKey plVal), (3, .box 24 [.ref 0, .int .i64 b.rule, .int .i64 b.most]), (0, .sl .ro 61 3 b.loads encLoad zLoad), (1, .pf NobodyAt (· = 1)), (2, .pf LanesAt (· = 0))], 8, []⟩) (fun zz : (List (Int × Bool)) => ⟨55, [(6, [], .s (.p 7 0)), (1, [], .s (.p 3 0))], [(7, .box 109 [.v (.map (some gM2))]), (6, mapE gM2 zz stKey stVal), (5, .box 94 [.ref 0, .int .i64 b.rule, .int .i64 b.most, .v (.map (some gM1))]), (4, mapE gM1 (plL b) plKey plVal), (3, .box 24 [.ref 0, .int .i64 b.rule, .int .i64 b.most]), (0, .sl .ro 61 3 b.loads encLoad zLoad), (1, .pf NobodyAt (· = 1)), (2, .pf LanesAt (· = 0))], 8, []⟩) (fun (k1 : Nat) (zz : (List (Int × Bool))) => ∀ x ∈ zz, x.1 < (k1 : Int)) (fun x hx => by cases hx) ⟨0, rfl, Le_sel (ts := [23, 22, 6, 5, 1]) (ids := [7, 6, 5, 4, 3, 0, 1, 2]) (nx := 8) (by kernel_rfl)⟩ ?_ ?_
  · intro k1 v1_1 hn1 hp1 hi1 Q1 hq1 ho1
    replace hp1 : ∀ x ∈ v1_1, x.1 < (k1 : Int) := hp1
    refine WP_seq (WP_region (WPO_all tt_ok (by kernel_rfl) ?_))
    refine WP_seq (WP_cond (decide ((k1 : Int) < (IntKind.i64.wrap ((allD b) + 1)))) (by kernel_rfl) (fun hc3 => ?_) (fun hc3 => ?_))
    rotate_left
    · refine WP_exit ?_
      show Q1 (.exit 0) _
      exact LA_exit hq1 v1_1 (loopR_end hi1 hc3) ⟨k1, hn1, hp1⟩ (Le_sel (ts := [6, 1]) (ids := [7, 6, 5, 4, 3, 0, 1, 2]) (nx := 8) (by kernel_rfl))
    have hc3' := of_decide_eq_true hc3
    have hk1 : k1 < 2 ^ b.loads.length := by rw [hpw] at hc3'; omega
    refine WP_skip ?_
    refine WP_seq (WP_block ?_)
    refine WP_seq (WP_region (WPO_all tt_ok (by kernel_rfl) ?_))
    refine WP_drawH [6] (by kernel_rfl) (by kernel_rfl) ?_
    refine H_run tt_ok [0, 1, 2, 3] (f' := 2) (by kernel_rfl) (by kernel_rfl) (by kernel_rfl) ?_
    refine H_step 4 (by kernel_rfl) (by kernel_rfl) (fun hfz cx' hx1 hx2 => ?_)
    refine CALL 97 [.g [.ref 0, .int .i64 b.rule, .int .i64 b.most, .v (.map (some gM1))], .s (.int .i64 (k1 : Int))] (.s (.bool (togetherD b (k1 : Int)))) [] (by kernel_rfl) (goes_of (by kernel_rfl)) (by kernel_rfl) (by kernel_rfl) (fun _ nV w h => togetherD_calls (nV 0) gM1 b (k1 : Int) w (h.reads (id := 0) (kd := .ro) (e := 61) (by kernel_rfl)) (h.ents (4, mapE gM1 (plL b) plKey plVal) (fnd_mem (by kernel_rfl))).1 (h.ents (2, .pf LanesAt (· = 0)) (fnd_mem (by kernel_rfl))).1 (by first | assumption | omega) (by first | assumption | omega)) ?_
    refine WPO_end (by kernel_rfl) ⟨rfl, (hfz.fnds [7, 5, 4, 3, 0, 1, 2] (by kernel_rfl) ⟨by kernel_rfl, by kernel_rfl, by kernel_rfl, by kernel_rfl, by kernel_rfl, by kernel_rfl, by kernel_rfl, trivial⟩ (by kernel_rfl)), ?_⟩
    refine H_step 5 (by kernel_rfl) (by kernel_rfl) (fun hfz cx' hx1 hx2 => ?_)
    refine MUPg tt_ok v1_1 stKey stVal (((k1 : Int), (togetherD b (k1 : Int))) : Int × Bool) 6 gM2 3 (.s (.int .i64 (k1 : Int))) (.s (.bool (togetherD b (k1 : Int)))) (by kernel_rfl) (by kernel_rfl) (fun _ => ⟨rfl, rfl⟩) (fun w => check_int (by kernel_rfl) _ w false) (fun w => find_int_none (by kernel_rfl) _ stK stKey stVal (fun _ => rfl) w _ (fun x hx h => by have h0 := hp1 x hx; simp only [stK] at h; omega)) ?_
    refine WPO_end (by kernel_rfl) ⟨rfl, (hfz.fnds [7, 5, 4, 3, 0, 1, 2] (by kernel_rfl) ⟨by kernel_rfl, by kernel_rfl, by kernel_rfl, by kernel_rfl, by kernel_rfl, by kernel_rfl, by kernel_rfl, trivial⟩ (by kernel_rfl)), ?_⟩
    refine H_done (by kernel_rfl) ?_
    refine WP_region (WPO_all tt_ok (by kernel_rfl) ?_)
    show Q1 .normal _
    exact LA_go hq1 (ci := IntKind.i64.wrap ((k1 : Int) + 1)) (v1_1 ++ [(((k1 : Int), (togetherD b (k1 : Int))) : Int × Bool)]) hk1 (by show _ = ((k1 + 1 : Nat) : Int); rw [wrapI (by omega) (by omega)]; omega) (loopR_go hi1 hk1 hc3 (rfl)) (fun x hx => (List.mem_append.1 hx).elim (fun h => by have := hp1 x h; omega) (fun h => by rw [List.mem_singleton.1 h]; show (k1 : Int) < ((k1 + 1 : Nat) : Int); omega)) (Le_sel (ts := [23, 22, 6, 5, 1]) (ids := [7, 6, 5, 4, 3, 0, 1, 2]) (nx := 8) (by kernel_rfl))
  intro u1_0 hR1 hP1 s' hl
  obtain ⟨kP1, hkP1, hpP1⟩ := hP1
  replace hpP1 : ∀ x ∈ u1_0, x.1 < (kP1 : Int) := hpP1
  refine WP_le hl ?_
  clear hl s'
  refine WP_seq (WP_region (WPO_all tt_ok (by kernel_rfl) ?_))
  refine WP_seq (WP_region (WPO_all tt_ok (by kernel_rfl) ?_))
  refine WP_seq (WP_seq (WP_region (WPO_all tt_ok (by kernel_rfl) ?_)))
  refine WP_loopA (ρ := (List Int) × Int) (fewestA_c2 b u1_0) (fewestA_b2 b u1_0) b.loads.length () (fun k : Nat => (k : Int)) (fun (ci : Int) (zz : Unit) => ⟨55, [(36, [], .s (.int .i64 ci)), (35, [], .s (.int .i64 (b.loads.length : Int))), (8, [], .s (.p 8 0))], [(9, .clo 98 [] [.s (.p 3 0), .s (.p 7 0), .s (.p 8 0)]), (8, .box 112 [.ref 9]), (7, .box 109 [.v (.map (some gM2))]), (6, mapE gM2 u1_0 stKey stVal), (5, .box 94 [.ref 0, .int .i64 b.rule, .int .i64 b.most, .v (.map (some gM1))]), (4, mapE gM1 (plL b) plKey plVal), (3, .box 24 [.ref 0, .int .i64 b.rule, .int .i64 b.most]), (0, .sl .ro 61 3 b.loads encLoad zLoad), (1, .pf NobodyAt (· = 1)), (2, .pf LanesAt (· = 0))], 10, []⟩) (fun zz : Unit => ⟨55, [], [(9, .clo 98 [] [.s (.p 3 0), .s (.p 7 0), .s (.p 8 0)]), (8, .box 112 [.ref 9]), (7, .box 109 [.v (.map (some gM2))]), (6, mapE gM2 u1_0 stKey stVal), (5, .box 94 [.ref 0, .int .i64 b.rule, .int .i64 b.most, .v (.map (some gM1))]), (4, mapE gM1 (plL b) plKey plVal), (3, .box 24 [.ref 0, .int .i64 b.rule, .int .i64 b.most]), (0, .sl .ro 61 3 b.loads encLoad zLoad), (1, .pf NobodyAt (· = 1)), (2, .pf LanesAt (· = 0))], 10, []⟩) (fun k zz => True) trivial ⟨0, rfl, Le_sel (ts := [36, 35, 8]) (ids := [9, 8, 7, 6, 5, 4, 3, 0, 1, 2]) (nx := 10) (by kernel_rfl)⟩ ?_ ?_
  · intro k2 zz hn2 hp2 hi2 Q2 hq2 ho2
    refine WP_seq (WP_region (WPO_all tt_ok (by kernel_rfl) ?_))
    refine WP_seq (WP_cond (decide ((k2 : Int) < (b.loads.length : Int))) (by kernel_rfl) (fun hc4 => ?_) (fun hc4 => ?_))
    rotate_left
    · refine WP_exit ?_
      show Q2 (.exit 2) _
      exact LA_exit hq2 () (loopR_end hi2 hc4) ⟨k2, hn2, hp2⟩ (Le_sel (ts := []) (ids := [9, 8, 7, 6, 5, 4, 3, 0, 1, 2]) (nx := 10) (by kernel_rfl))
    have hc4' := of_decide_eq_true hc4
    have hk2 : k2 < b.loads.length := by omega
    refine WP_skip ?_
    refine WP_seq (WP_block ?_)
    refine WP_seq (WP_region (WPO_all tt_ok (by kernel_rfl) ?_))
    refine WP_seq (WP_drawH [] (by kernel_rfl) (by kernel_rfl) ?_)
    refine H_run tt_ok [0, 1, 2] (f' := 7) (by kernel_rfl) (by kernel_rfl) (by kernel_rfl) ?_
    refine H_step 3 (by kernel_rfl) (by kernel_rfl) (fun hfz cx' hx1 hx2 => ?_)
    refine MKS tt_ok 33 3 (IntKind.i64.wrap ((k2 : Int) + 1)) (some 43) encI 0 (.int .i64 0) (by kernel_rfl) (by kernel_rfl) rfl (fun _ => rfl) (by kernel_rfl) (by rw [wrapI (by omega) (by omega)]; omega) (by kernel_rfl) ?_
    refine WPO_end (by kernel_rfl) ⟨rfl, (hfz.fnds [9, 8, 7, 6, 5, 4, 3, 0, 1, 2] (by kernel_rfl) ⟨by kernel_rfl, by kernel_rfl, by kernel_rfl, by kernel_rfl, by kernel_rfl, by kernel_rfl, by kernel_rfl, by kernel_rfl, by kernel_rfl, by kernel_rfl, trivial⟩ (by kernel_rfl)), ?_⟩
    refine H_step 4 (by kernel_rfl) (by kernel_rfl) (fun hfz cx' hx1 hx2 => ?_)
    refine CALLSL 98 [.s (.v (.slice none 0 0)), .s (.ref 10), .s (.p 3 0), .s (.p 7 0), .s (.p 8 0)] (fun sv5 => .t [(false, [.v sv5]), (false, [.bool (crossD b u1_0 b.loads.length [] (List.replicate (IntKind.i64.wrap ((k2 : Int) + 1)).toNat 0)).2])]) 1 (crossD b u1_0 b.loads.length [] (List.replicate (IntKind.i64.wrap ((k2 : Int) + 1)).toNat 0)).1 encI 0 (by decide) (by kernel_rfl) (goes_of (by kernel_rfl)) (fun _ => (by kernel_rfl)) (fun _ => (by kernel_rfl)) (fun _ _ _ => rfl) (fun nV w h => by
      obtain ⟨gx, hx1, _, hx2⟩ := h.ents (3, .box 24 [.ref 0, .int .i64 b.rule, .int .i64 b.most]) (fnd_mem (by kernel_rfl))
      obtain ⟨gt, ht1, _, ht2⟩ := h.ents (7, .box 109 [.v (.map (some gM2))]) (fnd_mem (by kernel_rfl))
      obtain ⟨gc, hc1, _, hc2⟩ := h.ents (8, .box 112 [.ref 9]) (fnd_mem (by kernel_rfl))
      exact cross_top u1_0 hb5 (nV 0) (nV 10) (nV 3) (nV 7) (nV 8) (nV 9) gx gt gM2 gc (List.replicate (IntKind.i64.wrap ((k2 : Int) + 1)).toNat 0) w (by rw [List.length_replicate, wrapI (by omega) (by omega)]; omega) (h.reads (id := 0) (kd := .ro) (e := 61) (by kernel_rfl)) (h.reads (id := 10) (kd := .own) (e := 3) (by kernel_rfl)) (h.ents (6, mapE gM2 u1_0 stKey stVal) (fnd_mem (by kernel_rfl))).1 hx1 ht1 hc1 hx2 ht2 (h.ents (9, .clo 98 [] [.s (.p 3 0), .s (.p 7 0), .s (.p 8 0)]) (fnd_mem (by kernel_rfl))) hc2) (fun sv5 => ?_)
    refine WPO_end (by kernel_rfl) ⟨rfl, (hfz.fnds [9, 8, 7, 6, 5, 4, 3, 0, 1, 2] (by kernel_rfl) ⟨by kernel_rfl, by kernel_rfl, by kernel_rfl, by kernel_rfl, by kernel_rfl, by kernel_rfl, by kernel_rfl, by kernel_rfl, by kernel_rfl, by kernel_rfl, trivial⟩ (by kernel_rfl)), ?_⟩
    refine H_run tt_ok [5, 6, 7, 8, 9] (f' := 0) (by kernel_rfl) (by kernel_rfl) (by kernel_rfl) ?_
    refine H_done (by kernel_rfl) ?_
    refine WP_seq (WP_region (WPO_all tt_ok (by kernel_rfl) ?_))
    refine WP_cond ((crossD b u1_0 b.loads.length [] (List.replicate (IntKind.i64.wrap ((k2 : Int) + 1)).toNat 0)).2) (by kernel_rfl) (fun hc6 => ?_) (fun hc6 => ?_)
    · refine WP_seq (WP_region (WPO_run tt_ok 2 (by kernel_rfl) ?_))
      refine SLEN tt_ok (.s (.v sv5)) [] (crossD b u1_0 b.loads.length [] (List.replicate (IntKind.i64.wrap ((k2 : Int) + 1)).toNat 0)).1.length (by kernel_rfl) (fun _ n w h => by obtain ⟨A, c, hv, _⟩ := (h.ents (11, slE sv5 1 (crossD b u1_0 b.loads.length [] (List.replicate (IntKind.i64.wrap ((k2 : Int) + 1)).toNat 0)).1 encI 0) (fnd_mem (by kernel_rfl))).1; exact ⟨A, c, hv⟩) (by kernel_rfl) ?_
      refine WPO_run tt_ok 1 (by kernel_rfl) ?_
      refine SLEN tt_ok (.s (.v sv5)) [] (crossD b u1_0 b.loads.length [] (List.replicate (IntKind.i64.wrap ((k2 : Int) + 1)).toNat 0)).1.length (by kernel_rfl) (fun _ n w h => by obtain ⟨A, c, hv, _⟩ := (h.ents (11, slE sv5 1 (crossD b u1_0 b.loads.length [] (List.replicate (IntKind.i64.wrap ((k2 : Int) + 1)).toNat 0)).1 encI 0) (fnd_mem (by kernel_rfl))).1; exact ⟨A, c, hv⟩) (by kernel_rfl) ?_
      refine SLVF tt_ok 11 sv5 3 1 (crossD b u1_0 b.loads.length [] (List.replicate (IntKind.i64.wrap ((k2 : Int) + 1)).toNat 0)).1 encI 0 (some 53) (by kernel_rfl) (by kernel_rfl) (fun _ => (by kernel_rfl)) (fun sv6 => ?_)
      refine WPO_all tt_ok (by kernel_rfl) ?_
      refine WP_ret ?_
      show Q2 .ret _
      refine LA_ret hq2 ?_
      have he7 := loopR_ret (r := ((crossD b u1_0 b.loads.length [] (List.replicate (IntKind.i64.wrap ((k2 : Int) + 1)).toNat 0)).1, 0)) hi2 hk2 hc4 (by unfold fewestA_b2; simp only [hc6, cond_true, cond_false])
      exact ⟨.t [(false, [.v sv6]), (false, [.int .i64 0])], by kernel_rfl, fun nV w' h => ⟨sv6, by rw [show fewestA b = ((crossD b u1_0 b.loads.length [] (List.replicate (IntKind.i64.wrap ((k2 : Int) + 1)).toNat 0)).1, 0) from by unfold fewestA; simp only [hc2, hR1, he7, cond_true, cond_false]]; rfl, h.bel, by rw [show fewestA b = ((crossD b u1_0 b.loads.length [] (List.replicate (IntKind.i64.wrap ((k2 : Int) + 1)).toNat 0)).1, 0) from by unfold fewestA; simp only [hc2, hR1, he7, cond_true, cond_false]]; exact (slE_lt (id := 12) (v := sv6) (sz := 1) (li := (crossD b u1_0 b.loads.length [] (List.replicate (IntKind.i64.wrap ((k2 : Int) + 1)).toNat 0)).1) (enc := encI) (z := 0) h (by kernel_rfl)).1, (slE_lt (id := 12) (v := sv6) (sz := 1) (li := (crossD b u1_0 b.loads.length [] (List.replicate (IntKind.i64.wrap ((k2 : Int) + 1)).toNat 0)).1) (enc := encI) (z := 0) h (by kernel_rfl)).2⟩⟩
    refine WP_skip ?_
    refine WP_region (WPO_all tt_ok (by kernel_rfl) ?_)
    show Q2 .normal _
    exact LA_go hq2 (ci := IntKind.i64.wrap ((k2 : Int) + 1)) () hk2 (by show _ = ((k2 + 1 : Nat) : Int); rw [wrapI (by omega) (by omega)]; omega) (loopR_go hi2 hk2 hc4 (by unfold fewestA_b2; simp only [hc6, cond_true, cond_false])) trivial (Le_sel (ts := [36, 35, 8]) (ids := [9, 8, 7, 6, 5, 4, 3, 0, 1, 2]) (nx := 10) (by kernel_rfl))
  intro zz hR2 hP2 s' hl
  refine WP_le hl ?_
  clear hl s'
  refine WP_seq (WP_region (WPO_all tt_ok (by kernel_rfl) ?_))
  refine WP_ret ?_
  exact ⟨.t [(false, [.v (.slice none 0 0)]), (false, [.int .i64 4])], by kernel_rfl, fun nV w' h => ⟨.slice none 0 0, by rw [show fewestA b = ([], 4) from by unfold fewestA; simp only [hc2, hR1, hR2, cond_true, cond_false]]; rfl, h.bel, by rw [show fewestA b = ([], 4) from by unfold fewestA; simp only [hc2, hR1, hR2, cond_true, cond_false]]; exact reads_nil, fun g hg => by cases hg⟩⟩
end Go.Proofs.YthfnedbpmdkdjaaDoor.D
namespace Go.Proofs.YthfnedbpmdkdjaaDoor.D
open Go Go.RowKit Go.Proofs.YthfnedbpmdkdjaaDoor.Eng Go.Proofs.YthfnedbpmdkdjaaDoor.Cm
set_option linter.unusedVariables false
set_option linter.unusedSimpArgs false
set_option linter.unusedSectionVars false
def weighA_c2 (b : DBook) (k1 : Nat) (v1_1 : Int) (v1_2 : Int) (k2 : Nat) : Int → Bool := fun v2_1 => decide ((k2 : Int) < (IntKind.i64.wrap ((IntKind.i64.wrap ((b.loads.getD k1 zLoad).w.hi - (b.loads.getD k1 zLoad).w.lo)) + 1)))
def weighA_b2 (b : DBook) (k1 : Nat) (v1_1 : Int) (v1_2 : Int) (k2 : Nat) : Int → Bd Int (Int × Int) := fun v2_1 => .go (mn v2_1 ((mostD (⟨(cloneL b.loads).set k1 (⟨(⟨IntKind.i64.wrap ((b.loads.getD k1 zLoad).w.lo + (k2 : Int)), IntKind.i64.wrap ((b.loads.getD k1 zLoad).w.lo + (k2 : Int))⟩ : Span), ((cloneL b.loads).getD k1 zLoad).lanes⟩ : Load), b.rule, b.most⟩ : DBook)).length : Int))
def weighA_c1 (b : DBook) (k1 : Nat) : (Int × Int) → Bool := fun (v1_1, v1_2) => decide ((k1 : Int) < (b.loads.length : Int))
def weighA_b1 (b : DBook) (k1 : Nat) : (Int × Int) → Bd (Int × Int) (Int × Int) := fun (v1_1, v1_2) => (bif (IntKind.i64.wrap ((b.loads.getD k1 zLoad).w.hi - (b.loads.getD k1 zLoad).w.lo)) == 0 then .go (v1_1, v1_2) else (match loopR (weighA_c2 b k1 v1_1 v1_2) (weighA_b2 b k1 v1_1 v1_2) ((IntKind.i64.wrap ((IntKind.i64.wrap ((b.loads.getD k1 zLoad).w.hi - (b.loads.getD k1 zLoad).w.lo)) + 1)) : Int).toNat 0 (b.loads.length : Int) with | .brk u2_0 => .go (bif (decide ((greatestD u2_0 ([v1_1])) > v1_1)) then u2_0 else v1_1, bif (decide ((greatestD u2_0 ([v1_1])) > v1_1)) then (k1 : Int) else v1_2) | .ret r => .ret r))
def weighA (b : DBook) : Int × Int :=
  (bif (checkD b) != 0 then (0, (checkD b)) else (match loopR (weighA_c1 b) (weighA_b1 b) b.loads.length 0 (-1, -1) with | .brk (u1_0, u1_1) => (bif decide (u1_1 < 0) then (0, 4) else (u1_1, 0)) | .ret r => r))
set_option maxHeartbeats 1000000 in
theorem weighA_calls (g0 : Value) (b : DBook) (w : World) (r0 : Reads w g0 3 b.loads encLoad zLoad) (hnb : NobodyAt w) (hla : LanesAt w) : Calls Tryd.prog 48 #[.agg #[g0, iv b.rule, iv b.most]] w fun e w' => e = .returned (.tuple #[iv (weighA b).1, iv (weighA b).2]) ∧ Below w.heap.size w w' := by
  refine calls_of_WP (cx := cx0 w (vn [g0]) 1) (n := vn [g0]) (vs := [.g [.ref 0, .int .i64 b.rule, .int .i64 b.most]]) (hp := [(0, .sl .ro 61 3 b.loads encLoad zLoad), (1, .pf NobodyAt (· = 1)), (2, .pf LanesAt (· = 0))]) (nx := 3) tt_ok Tryd.func48 rfl rfl rfl (by kernel_rfl) (HSat_args (vn_one (by simp [r0.one])) (by decide) ⟨⟨⟨fun _ => rfl, by decide, r0⟩, (Nat.le_of_ble_eq_true rfl)⟩, ⟨⟨hnb, fun w1 w2 h1 hw => (hw 1 rfl).trans h1, fun g hg => by cases hg; exact (Array.getElem?_eq_some_iff.1 hnb).1⟩, (Nat.le_of_ble_eq_true rfl)⟩, ⟨⟨hla, fun w1 w2 h1 hw => (hw 0 rfl).trans h1, fun g hg => by cases hg; exact (Array.getElem?_eq_some_iff.1 hla).1⟩, (Nat.le_of_ble_eq_true rfl)⟩, trivial⟩) (vsOk (by kernel_rfl)) ?_
  have hl0 := Reads.len r0
  refine WP_seq (WP_region (WPO_all tt_ok (by kernel_rfl) ?_))
  refine WP_seq (WP_seq (WP_region (WPO_run tt_ok 1 (by kernel_rfl) ?_)))
  refine CALL 66 [.g [.ref 0, .int .i64 b.rule, .int .i64 b.most]] (.s (.int .i64 (checkD b))) [] (by kernel_rfl) (goes_of (by kernel_rfl)) (by kernel_rfl) (by kernel_rfl) (fun _ nV w h => checkD_calls (nV 0) b w (h.reads (id := 0) (kd := .ro) (e := 61) (by kernel_rfl)) ) ?_
  refine WPO_all tt_ok (by kernel_rfl) ?_
  refine WP_seq (WP_region (WPO_all tt_ok (by kernel_rfl) ?_))
  refine WP_cond ((checkD b) != 0) (by kernel_rfl) (fun hc2 => ?_) (fun hc2 => ?_)
  · have hc2' := hc2; try simp only [Bool.and_eq_true, Bool.or_eq_true, Bool.and_eq_false_iff, Bool.or_eq_false_iff, Bool.not_eq_true', Bool.not_eq_false', decide_eq_true_eq, decide_eq_false_iff_not, beq_iff_eq, beq_eq_false_iff_ne, bne_iff_ne, bne_eq_false_iff_eq, ne_eq] at hc2'
    refine WP_seq (WP_region (WPO_all tt_ok (by kernel_rfl) ?_))
    refine WP_ret ?_
    exact ⟨.t [(false, [.int .i64 0]), (false, [.int .i64 (checkD b)])], by kernel_rfl, fun nV w' h => ⟨by rw [show weighA b = (0, (checkD b)) from by unfold weighA; simp only [hc2, cond_true, cond_false]]; rfl, h.bel⟩⟩
  have hc2' := hc2; try simp only [Bool.and_eq_true, Bool.or_eq_true, Bool.and_eq_false_iff, Bool.or_eq_false_iff, Bool.not_eq_true', Bool.not_eq_false', decide_eq_true_eq, decide_eq_false_iff_not, beq_iff_eq, beq_eq_false_iff_ne, bne_iff_ne, bne_eq_false_iff_eq, ne_eq] at hc2'
  refine WP_skip ?_
  have hv : ValidD b := checkD_valid.1 (bne_eq_false_iff_eq.1 (by assumption))
  have hb5 := hv.n.2
  have hcl : (cloneL b.loads).length = b.loads.length := rfl
  refine WP_seq (WP_region (WPO_all tt_ok (by kernel_rfl) ?_))
  refine WP_seq (WP_seq (WP_region (WPO_all tt_ok (by kernel_rfl) ?_)))
  refine WP_loopA (ρ := Int × Int) (weighA_c1 b) (weighA_b1 b) b.loads.length (-1, -1) (fun k : Nat => (k : Int)) (fun (ci : Int) (zz : Int × Int) => ⟨83, [(21, [], .s (.int .i64 ci)), (20, [], .s (.int .i64 (b.loads.length : Int))), (19, [], .s (.ref 0)), (6, [], .s (.int .i64 zz.1)), (5, [], .s (.int .i64 zz.2)), (1, [], .s (.p 3 0))], [(3, .box 24 [.ref 0, .int .i64 b.rule, .int .i64 b.most]), (0, .sl .ro 61 3 b.loads encLoad zLoad), (1, .pf NobodyAt (· = 1)), (2, .pf LanesAt (· = 0))], 4, []⟩) (fun zz : Int × Int => ⟨83, [(5, [], .s (.int .i64 zz.2))], [(3, .box 24 [.ref 0, .int .i64 b.rule, .int .i64 b.most]), (0, .sl .ro 61 3 b.loads encLoad zLoad), (1, .pf NobodyAt (· = 1)), (2, .pf LanesAt (· = 0))], 4, []⟩) (fun k zz => True) trivial ⟨0, rfl, Le_sel (ts := [21, 20, 19, 6, 5, 1]) (ids := [3, 0, 1, 2]) (nx := 4) (by kernel_rfl)⟩ ?_ ?_
  · intro k1 zz hn1 hp1 hi1 Q1 hq1 ho1
    obtain ⟨v1_1, v1_2⟩ := zz
    refine WP_seq (WP_region (WPO_all tt_ok (by kernel_rfl) ?_))
    refine WP_seq (WP_cond (decide ((k1 : Int) < (b.loads.length : Int))) (by kernel_rfl) (fun hc3 => ?_) (fun hc3 => ?_))
    rotate_left
    · refine WP_exit ?_
      show Q1 (.exit 0) _
      exact LA_exit hq1 (v1_1, v1_2) (loopR_end hi1 hc3) ⟨k1, hn1, hp1⟩ (Le_sel (ts := [5]) (ids := [3, 0, 1, 2]) (nx := 4) (by kernel_rfl))
    have hc3' := of_decide_eq_true hc3
    have hk1 : k1 < b.loads.length := by omega
    have hld := (hv.load hk1).1
    have hw1 : IntKind.i64.wrap ((b.loads.getD k1 zLoad).w.hi - (b.loads.getD k1 zLoad).w.lo) = (b.loads.getD k1 zLoad).w.hi - (b.loads.getD k1 zLoad).w.lo := wrapI (by omega) (by omega)
    have hw2 : IntKind.i64.wrap (IntKind.i64.wrap ((b.loads.getD k1 zLoad).w.hi - (b.loads.getD k1 zLoad).w.lo) + 1) = (b.loads.getD k1 zLoad).w.hi - (b.loads.getD k1 zLoad).w.lo + 1 := by rw [hw1, wrapI (by omega) (by omega)]
    refine WP_skip ?_
    refine WP_seq (WP_block ?_)
    refine WP_seq (WP_region (WPO_run tt_ok 1 (by kernel_rfl) ?_))
    refine IX tt_ok (k1 : Int) b.loads.length [] (by kernel_rfl) (fun hG => ⟨by omega, by omega⟩) ?_
    refine WPO_all tt_ok (by kernel_rfl) ?_
    refine WP_seq (WP_region (WPO_all tt_ok (by kernel_rfl) ?_))
    refine WP_seq (WP_seq (WP_region (WPO_all tt_ok (by kernel_rfl) ?_)))
    refine WP_cond ((IntKind.i64.wrap ((b.loads.getD k1 zLoad).w.hi - (b.loads.getD k1 zLoad).w.lo)) == 0) (by kernel_rfl) (fun hc5 => ?_) (fun hc5 => ?_)
    · have hc5' := hc5; try simp only [Bool.and_eq_true, Bool.or_eq_true, Bool.and_eq_false_iff, Bool.or_eq_false_iff, Bool.not_eq_true', Bool.not_eq_false', decide_eq_true_eq, decide_eq_false_iff_not, beq_iff_eq, beq_eq_false_iff_ne, bne_iff_ne, bne_eq_false_iff_eq, ne_eq] at hc5'
      refine WP_exit ?_
      refine WP_region (WPO_all tt_ok (by kernel_rfl) ?_)
      show Q1 .normal _
      exact LA_go hq1 (ci := IntKind.i64.wrap ((k1 : Int) + 1)) (v1_1, v1_2) hk1 (by show _ = ((k1 + 1 : Nat) : Int); rw [wrapI (by omega) (by omega)]; omega) (loopR_go hi1 hk1 hc3 (by unfold weighA_b1; simp only [hc5, cond_true, cond_false])) trivial (Le_sel (ts := [21, 20, 19, 6, 5, 1]) (ids := [3, 0, 1, 2]) (nx := 4) (by kernel_rfl))
    have hc5' := hc5; try simp only [Bool.and_eq_true, Bool.or_eq_true, Bool.and_eq_false_iff, Bool.or_eq_false_iff, Bool.not_eq_true', Bool.not_eq_false', decide_eq_true_eq, decide_eq_false_iff_not, beq_iff_eq, beq_eq_false_iff_ne, bne_iff_ne, bne_eq_false_iff_eq, ne_eq] at hc5'
    refine WP_skip ?_
    refine WP_seq (WP_region (WPO_all tt_ok (by kernel_rfl) ?_))
    refine WP_seq (WP_seq (WP_region (WPO_all tt_ok (by kernel_rfl) ?_)))
    refine WP_loopA (ρ := Int × Int) (weighA_c2 b k1 v1_1 v1_2) (weighA_b2 b k1 v1_1 v1_2) ((IntKind.i64.wrap ((IntKind.i64.wrap ((b.loads.getD k1 zLoad).w.hi - (b.loads.getD k1 zLoad).w.lo)) + 1)) : Int).toNat (b.loads.length : Int) (fun k : Nat => (k : Int)) (fun (ci : Int) (zz : Int) => ⟨83, [(40, [], .s (.int .i64 ci)), (39, [], .s (.int .i64 (IntKind.i64.wrap ((IntKind.i64.wrap ((b.loads.getD k1 zLoad).w.hi - (b.loads.getD k1 zLoad).w.lo)) + 1)))), (10, [], .s (.int .i64 zz)), (7, [], .s (.int .i64 (k1 : Int))), (8, [], .s (.p 4 0)), (21, [], .s (.int .i64 (k1 : Int))), (20, [], .s (.int .i64 (b.loads.length : Int))), (19, [], .s (.ref 0)), (6, [], .s (.int .i64 v1_1)), (5, [], .s (.int .i64 v1_2)), (1, [], .s (.p 3 0))], [(4, .box 61 [.int .i64 (b.loads.getD k1 zLoad).w.lo, .int .i64 (b.loads.getD k1 zLoad).w.hi, .int .i64 (b.loads.getD k1 zLoad).lanes]), (3, .box 24 [.ref 0, .int .i64 b.rule, .int .i64 b.most]), (0, .sl .ro 61 3 b.loads encLoad zLoad), (1, .pf NobodyAt (· = 1)), (2, .pf LanesAt (· = 0))], 5, []⟩) (fun zz : Int => ⟨83, [(10, [], .s (.int .i64 zz)), (7, [], .s (.int .i64 (k1 : Int))), (21, [], .s (.int .i64 (k1 : Int))), (20, [], .s (.int .i64 (b.loads.length : Int))), (19, [], .s (.ref 0)), (6, [], .s (.int .i64 v1_1)), (5, [], .s (.int .i64 v1_2)), (1, [], .s (.p 3 0))], [(4, .box 61 [.int .i64 (b.loads.getD k1 zLoad).w.lo, .int .i64 (b.loads.getD k1 zLoad).w.hi, .int .i64 (b.loads.getD k1 zLoad).lanes]), (3, .box 24 [.ref 0, .int .i64 b.rule, .int .i64 b.most]), (0, .sl .ro 61 3 b.loads encLoad zLoad), (1, .pf NobodyAt (· = 1)), (2, .pf LanesAt (· = 0))], 5, []⟩) (fun k zz => True) trivial ⟨0, rfl, Le_sel (ts := [40, 39, 10, 7, 8, 21, 20, 19, 6, 5, 1]) (ids := [4, 3, 0, 1, 2]) (nx := 5) (by kernel_rfl)⟩ ?_ ?_
    · intro k2 v2_1 hn2 hp2 hi2 Q2 hq2 ho2
      refine WP_seq (WP_region (WPO_all tt_ok (by kernel_rfl) ?_))
      refine WP_seq (WP_cond (decide ((k2 : Int) < (IntKind.i64.wrap ((IntKind.i64.wrap ((b.loads.getD k1 zLoad).w.hi - (b.loads.getD k1 zLoad).w.lo)) + 1)))) (by kernel_rfl) (fun hc6 => ?_) (fun hc6 => ?_))
      rotate_left
      · refine WP_exit ?_
        show Q2 (.exit 2) _
        exact LA_exit hq2 v2_1 (loopR_end hi2 hc6) ⟨k2, hn2, hp2⟩ (Le_sel (ts := [10, 7, 21, 20, 19, 6, 5, 1]) (ids := [4, 3, 0, 1, 2]) (nx := 5) (by kernel_rfl))
      have hc6' := of_decide_eq_true hc6
      have hk2 : k2 < ((IntKind.i64.wrap ((IntKind.i64.wrap ((b.loads.getD k1 zLoad).w.hi - (b.loads.getD k1 zLoad).w.lo)) + 1)) : Int).toNat := by omega
      refine WP_skip ?_
      refine WP_seq (WP_block ?_)
      refine WP_seq (WP_region (WPO_all tt_ok (by kernel_rfl) ?_))
      refine WP_le (s' := ⟨83, [(11, [], .s (.int .i64 (k2 : Int))), (40, [], .s (.int .i64 (k2 : Int))), (39, [], .s (.int .i64 (IntKind.i64.wrap ((IntKind.i64.wrap ((b.loads.getD k1 zLoad).w.hi - (b.loads.getD k1 zLoad).w.lo)) + 1)))), (10, [], .s (.int .i64 v2_1)), (7, [], .s (.int .i64 (k1 : Int))), (8, [], .s (.p 4 0)), (21, [], .s (.int .i64 (k1 : Int))), (20, [], .s (.int .i64 (b.loads.length : Int))), (19, [], .s (.ref 0)), (6, [], .s (.int .i64 v1_1)), (5, [], .s (.int .i64 v1_2)), (1, [], .s (.p 3 0))], [(4, .box 61 [.int .i64 (b.loads.getD k1 zLoad).w.lo, .int .i64 (b.loads.getD k1 zLoad).w.hi, .int .i64 (b.loads.getD k1 zLoad).lanes]), (3, .box 24 [.ref 0, .int .i64 b.rule, .int .i64 b.most]), (0, .sl .ro 61 3 b.loads encLoad zLoad), (1, .pf NobodyAt (· = 1)), (2, .pf LanesAt (· = 0))], 5, []⟩) (Le_sel (ts := [11, 40, 39, 10, 7, 8, 21, 20, 19, 6, 5, 1]) (ids := [4, 3, 0, 1, 2]) (nx := 5) (by kernel_rfl)) ?_
      refine WP_seq (WP_region (WPO_all tt_ok (by kernel_rfl) ?_))
      refine WP_seq (WP_region (WPO_run tt_ok 2 (by kernel_rfl) ?_))
      refine CALLO 103 [.s (.ref 0)] (.s (.ref 6)) 61 3 (cloneL b.loads) encLoad zLoad 6 (by kernel_rfl) (by kernel_rfl) (goes_of (by kernel_rfl)) (by kernel_rfl) (by kernel_rfl) (fun _ => rfl) ((fun nV w h => cloneL_calls (nV 0) b.loads w (h.reads (id := 0) (kd := .ro) (e := 61) (by kernel_rfl)) (by first | assumption | omega | (simp only [List.length_set, cloneL]; omega)))) ?_
      refine WPO_all tt_ok (by kernel_rfl) ?_
      refine WP_le (s' := ⟨83, [(12, [], .s (.p 5 0)), (11, [], .s (.int .i64 (k2 : Int))), (40, [], .s (.int .i64 (k2 : Int))), (39, [], .s (.int .i64 (IntKind.i64.wrap ((IntKind.i64.wrap ((b.loads.getD k1 zLoad).w.hi - (b.loads.getD k1 zLoad).w.lo)) + 1)))), (10, [], .s (.int .i64 v2_1)), (7, [], .s (.int .i64 (k1 : Int))), (8, [], .s (.p 4 0)), (21, [], .s (.int .i64 (k1 : Int))), (20, [], .s (.int .i64 (b.loads.length : Int))), (19, [], .s (.ref 0)), (6, [], .s (.int .i64 v1_1)), (5, [], .s (.int .i64 v1_2)), (1, [], .s (.p 3 0))], [(6, .sl .own 61 3 (cloneL b.loads) encLoad zLoad), (5, .box 24 [.ref 6, .int .i64 b.rule, .int .i64 b.most]), (4, .box 61 [.int .i64 (b.loads.getD k1 zLoad).w.lo, .int .i64 (b.loads.getD k1 zLoad).w.hi, .int .i64 (b.loads.getD k1 zLoad).lanes]), (3, .box 24 [.ref 0, .int .i64 b.rule, .int .i64 b.most]), (0, .sl .ro 61 3 b.loads encLoad zLoad), (1, .pf NobodyAt (· = 1)), (2, .pf LanesAt (· = 0))], 7, []⟩) (Le_sel (ts := [12, 11, 40, 39, 10, 7, 8, 21, 20, 19, 6, 5, 1]) (ids := [6, 5, 4, 3, 0, 1, 2]) (nx := 7) (by kernel_rfl)) ?_
      refine WP_seq (WP_region (WPO_run tt_ok 14 (by kernel_rfl) ?_))
      refine IX tt_ok (k1 : Int) (cloneL b.loads).length [] (by kernel_rfl) (fun hG => ⟨by omega, by omega⟩) ?_
      refine WPO_run tt_ok 1 (by kernel_rfl) ?_
      refine EST tt_ok 6 (k1 : Int) 3 0 61 43 (cloneL b.loads) encLoad zLoad (⟨(⟨IntKind.i64.wrap ((b.loads.getD k1 zLoad).w.lo + (k2 : Int)), IntKind.i64.wrap ((b.loads.getD k1 zLoad).w.lo + (k2 : Int))⟩ : Span), ((cloneL b.loads).getD k1 zLoad).lanes⟩ : Load) (.g [.int .i64 (IntKind.i64.wrap ((b.loads.getD k1 zLoad).w.lo + (k2 : Int))), .int .i64 (IntKind.i64.wrap ((b.loads.getD k1 zLoad).w.lo + (k2 : Int)))]) (by kernel_rfl) (by kernel_rfl) (by kernel_rfl) (by kernel_rfl) ⟨by omega, by omega⟩ (fun n => rfl) ?_
      refine WPO_nil ?_
      refine WP_le (s' := ⟨83, [(12, [], .s (.p 5 0)), (40, [], .s (.int .i64 (k2 : Int))), (39, [], .s (.int .i64 (IntKind.i64.wrap ((IntKind.i64.wrap ((b.loads.getD k1 zLoad).w.hi - (b.loads.getD k1 zLoad).w.lo)) + 1)))), (10, [], .s (.int .i64 v2_1)), (7, [], .s (.int .i64 (k1 : Int))), (8, [], .s (.p 4 0)), (21, [], .s (.int .i64 (k1 : Int))), (20, [], .s (.int .i64 (b.loads.length : Int))), (19, [], .s (.ref 0)), (6, [], .s (.int .i64 v1_1)), (5, [], .s (.int .i64 v1_2)), (1, [], .s (.p 3 0))], [(6, .sl .own 61 3 ((cloneL b.loads).set k1 (⟨(⟨IntKind.i64.wrap ((b.loads.getD k1 zLoad).w.lo + (k2 : Int)), IntKind.i64.wrap ((b.loads.getD k1 zLoad).w.lo + (k2 : Int))⟩ : Span), ((cloneL b.loads).getD k1 zLoad).lanes⟩ : Load)) encLoad zLoad), (5, .box 24 [.ref 6, .int .i64 b.rule, .int .i64 b.most]), (4, .box 61 [.int .i64 (b.loads.getD k1 zLoad).w.lo, .int .i64 (b.loads.getD k1 zLoad).w.hi, .int .i64 (b.loads.getD k1 zLoad).lanes]), (3, .box 24 [.ref 0, .int .i64 b.rule, .int .i64 b.most]), (0, .sl .ro 61 3 b.loads encLoad zLoad), (1, .pf NobodyAt (· = 1)), (2, .pf LanesAt (· = 0))], 7, []⟩) (Le_sel (ts := [12, 40, 39, 10, 7, 8, 21, 20, 19, 6, 5, 1]) (ids := [6, 5, 4, 3, 0, 1, 2]) (nx := 7) (by kernel_rfl)) ?_
      refine WP_region (WPO_run tt_ok 2 (by kernel_rfl) ?_)
      refine CALLMAP 90 [.g [.ref 6, .int .i64 b.rule, .int .i64 b.most]] (plL (⟨(cloneL b.loads).set k1 (⟨(⟨IntKind.i64.wrap ((b.loads.getD k1 zLoad).w.lo + (k2 : Int)), IntKind.i64.wrap ((b.loads.getD k1 zLoad).w.lo + (k2 : Int))⟩ : Span), ((cloneL b.loads).getD k1 zLoad).lanes⟩ : Load), b.rule, b.most⟩ : DBook)) plKey plVal (fun gM7 => .g [.ref 6, .int .i64 b.rule, .int .i64 b.most, .v (.map (some gM7))]) (by kernel_rfl) (goes_of (by kernel_rfl)) (fun _ => (by kernel_rfl)) (fun _ => (by kernel_rfl)) (fun _ n n' h => by simp only [AV.c, cellsV, part1, AC.c, List.map_cons, List.map_nil, h 6 (by show 6 < 7; decide)]) (fun nV w h => opened_plL (nV 6) (⟨(cloneL b.loads).set k1 (⟨(⟨IntKind.i64.wrap ((b.loads.getD k1 zLoad).w.lo + (k2 : Int)), IntKind.i64.wrap ((b.loads.getD k1 zLoad).w.lo + (k2 : Int))⟩ : Span), ((cloneL b.loads).getD k1 zLoad).lanes⟩ : Load), b.rule, b.most⟩ : DBook) w (h.reads (id := 6) (kd := .own) (e := 61) (by kernel_rfl)) (h.ents (1, .pf NobodyAt (· = 1)) (fnd_mem (by kernel_rfl))).1 (by first | assumption | omega | (simp only [List.length_set, cloneL]; omega))) (fun gM7 => ?_)
      refine CALLSL 95 [.g [.ref 6, .int .i64 b.rule, .int .i64 b.most, .v (.map (some gM7))]] (fun sv8 => .s (.v sv8)) 1 (mostD (⟨(cloneL b.loads).set k1 (⟨(⟨IntKind.i64.wrap ((b.loads.getD k1 zLoad).w.lo + (k2 : Int)), IntKind.i64.wrap ((b.loads.getD k1 zLoad).w.lo + (k2 : Int))⟩ : Span), ((cloneL b.loads).getD k1 zLoad).lanes⟩ : Load), b.rule, b.most⟩ : DBook)) encI 0 (by decide) (by kernel_rfl) (goes_of (by kernel_rfl)) (fun _ => (by kernel_rfl)) (fun _ => (by kernel_rfl)) (fun _ _ _ => rfl) (fun nV w h => mostD_calls (nV 6) gM7 (⟨(cloneL b.loads).set k1 (⟨(⟨IntKind.i64.wrap ((b.loads.getD k1 zLoad).w.lo + (k2 : Int)), IntKind.i64.wrap ((b.loads.getD k1 zLoad).w.lo + (k2 : Int))⟩ : Span), ((cloneL b.loads).getD k1 zLoad).lanes⟩ : Load), b.rule, b.most⟩ : DBook) w (h.reads (id := 6) (kd := .own) (e := 61) (by kernel_rfl)) (h.ents (7, mapE gM7 (plL (⟨(cloneL b.loads).set k1 (⟨(⟨IntKind.i64.wrap ((b.loads.getD k1 zLoad).w.lo + (k2 : Int)), IntKind.i64.wrap ((b.loads.getD k1 zLoad).w.lo + (k2 : Int))⟩ : Span), ((cloneL b.loads).getD k1 zLoad).lanes⟩ : Load), b.rule, b.most⟩ : DBook)) plKey plVal) (fnd_mem (by kernel_rfl))).1 (h.ents (2, .pf LanesAt (· = 0)) (fnd_mem (by kernel_rfl))).1 (by first | assumption | omega | (simp only [List.length_set, cloneL]; omega))) (fun sv8 => ?_)
      refine SLEN tt_ok (.s (.v sv8)) [] (mostD (⟨(cloneL b.loads).set k1 (⟨(⟨IntKind.i64.wrap ((b.loads.getD k1 zLoad).w.lo + (k2 : Int)), IntKind.i64.wrap ((b.loads.getD k1 zLoad).w.lo + (k2 : Int))⟩ : Span), ((cloneL b.loads).getD k1 zLoad).lanes⟩ : Load), b.rule, b.most⟩ : DBook)).length (by kernel_rfl) (fun _ n w h => by obtain ⟨A, c, hv, _⟩ := (h.ents (8, slE sv8 1 (mostD (⟨(cloneL b.loads).set k1 (⟨(⟨IntKind.i64.wrap ((b.loads.getD k1 zLoad).w.lo + (k2 : Int)), IntKind.i64.wrap ((b.loads.getD k1 zLoad).w.lo + (k2 : Int))⟩ : Span), ((cloneL b.loads).getD k1 zLoad).lanes⟩ : Load), b.rule, b.most⟩ : DBook)) encI 0) (fnd_mem (by kernel_rfl))).1; exact ⟨A, c, hv⟩) (by kernel_rfl) ?_
      refine WPO_all tt_ok (by kernel_rfl) ?_
      refine WP_region (WPO_all tt_ok (by kernel_rfl) ?_)
      show Q2 .normal _
      exact LA_go hq2 (ci := IntKind.i64.wrap ((k2 : Int) + 1)) (mn v2_1 ((mostD (⟨(cloneL b.loads).set k1 (⟨(⟨IntKind.i64.wrap ((b.loads.getD k1 zLoad).w.lo + (k2 : Int)), IntKind.i64.wrap ((b.loads.getD k1 zLoad).w.lo + (k2 : Int))⟩ : Span), ((cloneL b.loads).getD k1 zLoad).lanes⟩ : Load), b.rule, b.most⟩ : DBook)).length : Int)) hk2 (by show _ = ((k2 + 1 : Nat) : Int); rw [wrapI (by omega) (by omega)]; omega) (loopR_go hi2 hk2 hc6 (rfl)) trivial (Le_sel (ts := [40, 39, 10, 7, 8, 21, 20, 19, 6, 5, 1]) (ids := [4, 3, 0, 1, 2]) (nx := 5) (by kernel_rfl))
    intro u2_0 hR2 hP2 s' hl
    refine WP_le hl ?_
    clear hl s'
    refine WP_le (s' := ⟨83, [(10, [], .s (.int .i64 u2_0)), (7, [], .s (.int .i64 (k1 : Int))), (21, [], .s (.int .i64 (k1 : Int))), (20, [], .s (.int .i64 (b.loads.length : Int))), (19, [], .s (.ref 0)), (6, [], .s (.int .i64 v1_1)), (5, [], .s (.int .i64 v1_2)), (1, [], .s (.p 3 0))], [(4, .box 61 [.int .i64 (b.loads.getD k1 zLoad).w.lo, .int .i64 (b.loads.getD k1 zLoad).w.hi, .int .i64 (b.loads.getD k1 zLoad).lanes]), (3, .box 24 [.ref 0, .int .i64 b.rule, .int .i64 b.most]), (0, .sl .ro 61 3 b.loads encLoad zLoad), (1, .pf NobodyAt (· = 1)), (2, .pf LanesAt (· = 0))], 5, []⟩) (Le_sel (ts := [10, 7, 21, 20, 19, 6, 5, 1]) (ids := [4, 3, 0, 1, 2]) (nx := 5) (by kernel_rfl)) ?_
    refine WP_seq (WP_region (WPO_run tt_ok 2 (by kernel_rfl) ?_))
    refine LIT tt_ok (by kernel_rfl) ?_
    refine LITSL 5 3 1 1 [.int .i64 v1_1] [v1_1] encI 0 (by kernel_rfl) rfl (fun _ => rfl) (fun n => rfl) ?_
    refine CALL 104 [.s (.int .i64 u2_0), .s (.ref 5)] (.s (.int .i64 (greatestD u2_0 ([v1_1])))) [] (by kernel_rfl) (goes_of (by kernel_rfl)) (by kernel_rfl) (by kernel_rfl) (fun _ nV w h => greatestD_calls (nV 5) u2_0 ([v1_1]) w (h.reads (id := 5) (kd := .own) (e := 3) (by kernel_rfl)) ) ?_
    refine WPO_all tt_ok (by kernel_rfl) ?_
    refine WP_join (decide ((greatestD u2_0 ([v1_1])) > v1_1)) (fun q => ⟨83, [(6, [], .s (.int .i64 (bif q then u2_0 else v1_1))), (5, [], .s (.int .i64 (bif q then (k1 : Int) else v1_2))), (21, [], .s (.int .i64 (k1 : Int))), (20, [], .s (.int .i64 (b.loads.length : Int))), (19, [], .s (.ref 0)), (1, [], .s (.p 3 0))], [(5, .sl .own 3 1 ([v1_1]) encI 0), (4, .box 61 [.int .i64 (b.loads.getD k1 zLoad).w.lo, .int .i64 (b.loads.getD k1 zLoad).w.hi, .int .i64 (b.loads.getD k1 zLoad).lanes]), (3, .box 24 [.ref 0, .int .i64 b.rule, .int .i64 b.most]), (0, .sl .ro 61 3 b.loads encLoad zLoad), (1, .pf NobodyAt (· = 1)), (2, .pf LanesAt (· = 0))], 6, []⟩) (by kernel_rfl) (fun hc8 => ?_) (fun hc8 => ?_) ?_
    · have hc8' := of_decide_eq_true hc8
      refine WP_region (WPO_all tt_ok (by kernel_rfl) ?_)
      exact Le_sel (ts := [6, 5, 21, 20, 19, 1]) (ids := [5, 4, 3, 0, 1, 2]) (nx := 6) (by kernel_rfl)
    · have hc8' := of_decide_eq_false hc8
      refine WP_skip ?_
      exact Le_sel (ts := [6, 5, 21, 20, 19, 1]) (ids := [5, 4, 3, 0, 1, 2]) (nx := 6) (by kernel_rfl)
    refine WP_region (WPO_all tt_ok (by kernel_rfl) ?_)
    show Q1 .normal _
    exact LA_go hq1 (ci := IntKind.i64.wrap ((k1 : Int) + 1)) (bif (decide ((greatestD u2_0 ([v1_1])) > v1_1)) then u2_0 else v1_1, bif (decide ((greatestD u2_0 ([v1_1])) > v1_1)) then (k1 : Int) else v1_2) hk1 (by show _ = ((k1 + 1 : Nat) : Int); rw [wrapI (by omega) (by omega)]; omega) (loopR_go hi1 hk1 hc3 (by unfold weighA_b1; simp only [hc5, hR2, cond_true, cond_false])) trivial (Le_sel (ts := [21, 20, 19, 6, 5, 1]) (ids := [3, 0, 1, 2]) (nx := 4) (by kernel_rfl))
  intro zz hR1 hP1 s' hl
  obtain ⟨u1_0, u1_1⟩ := zz
  refine WP_le hl ?_
  clear hl s'
  refine WP_seq (WP_seq (WP_region (WPO_all tt_ok (by kernel_rfl) ?_)))
  refine WP_cond (decide (u1_1 < 0)) (by kernel_rfl) (fun hc10 => ?_) (fun hc10 => ?_)
  · have hc10' := of_decide_eq_true hc10
    refine WP_seq (WP_region (WPO_all tt_ok (by kernel_rfl) ?_))
    refine WP_ret ?_
    exact ⟨.t [(false, [.int .i64 0]), (false, [.int .i64 4])], by kernel_rfl, fun nV w' h => ⟨by rw [show weighA b = (0, 4) from by unfold weighA; simp only [hc2, hR1, hc10, cond_true, cond_false]]; rfl, h.bel⟩⟩
  have hc10' := of_decide_eq_false hc10
  refine WP_skip ?_
  refine WP_seq (WP_region (WPO_all tt_ok (by kernel_rfl) ?_))
  refine WP_ret ?_
  exact ⟨.t [(false, [.int .i64 u1_1]), (false, [.int .i64 0])], by kernel_rfl, fun nV w' h => ⟨by rw [show weighA b = (u1_1, 0) from by unfold weighA; simp only [hc2, hR1, hc10, cond_true, cond_false]]; rfl, h.bel⟩⟩
end Go.Proofs.YthfnedbpmdkdjaaDoor.D
namespace Go.Proofs.YthfnedbpmdkdjaaDoor.D
open Go Go.RowKit Go.Proofs.YthfnedbpmdkdjaaDoor.Eng Go.Proofs.YthfnedbpmdkdjaaDoor.Cm
set_option linter.unusedVariables false
set_option linter.unusedSimpArgs false
set_option linter.unusedSectionVars false
def loadL (weight : Span) (lanes : Int) : Load :=
  (⟨weight, lanes⟩ : Load)
theorem loadL_calls  (weight : Span) (lanes : Int) (w : World)   : Calls Tryd.prog 42 #[.agg #[iv weight.lo, iv weight.hi], iv lanes] w fun e w' => e = .returned (.agg #[iv (loadL weight lanes).w.lo, iv (loadL weight lanes).w.hi, iv (loadL weight lanes).lanes]) ∧ Below w.heap.size w w' := by
  refine calls_of_WP (cx := cx0 w Eng.n0 0) (n := Eng.n0) (vs := [.g [.int .i64 weight.lo, .int .i64 weight.hi], .s (.int .i64 lanes)]) (hp := []) (nx := 0) tt_ok Tryd.func42 rfl rfl rfl (by kernel_rfl) (HSat0 _ _ _ _ _ _ (fun _ => rfl) (Nat.le_refl _)) (vsOk (by kernel_rfl)) ?_
  refine WP_seq (WP_region (WPO_all tt_ok (by kernel_rfl) ?_))
  refine WP_seq (WP_region (WPO_all tt_ok (by kernel_rfl) ?_))
  refine WP_ret ?_
  exact ⟨.g [.int .i64 weight.lo, .int .i64 weight.hi, .int .i64 lanes], by kernel_rfl, fun nV w' h => ⟨by rw [show loadL weight lanes = (⟨weight, lanes⟩ : Load) from rfl]; rfl, h.bel⟩⟩
def placeL (at_ : Int) (lane : Int) : Place :=
  (⟨at_, lane⟩ : Place)
theorem placeL_calls  (at_ : Int) (lane : Int) (w : World)   : Calls Tryd.prog 44 #[iv at_, iv lane] w fun e w' => e = .returned (.agg #[iv (placeL at_ lane).load, iv (placeL at_ lane).lane]) ∧ Below w.heap.size w w' := by
  refine calls_of_WP (cx := cx0 w Eng.n0 0) (n := Eng.n0) (vs := [.s (.int .i64 at_), .s (.int .i64 lane)]) (hp := []) (nx := 0) tt_ok Tryd.func44 rfl rfl rfl (by kernel_rfl) (HSat0 _ _ _ _ _ _ (fun _ => rfl) (Nat.le_refl _)) (vsOk (by kernel_rfl)) ?_
  refine WP_seq (WP_region (WPO_all tt_ok (by kernel_rfl) ?_))
  refine WP_seq (WP_region (WPO_all tt_ok (by kernel_rfl) ?_))
  refine WP_ret ?_
  exact ⟨.g [.int .i64 at_, .int .i64 lane], by kernel_rfl, fun nV w' h => ⟨by rw [show placeL at_ lane = (⟨at_, lane⟩ : Place) from rfl]; rfl, h.bel⟩⟩
def bookL (rule : Int) (most : Int) : DBook :=
  (⟨[(loadL (rangeF 10 12) 5), (loadL (rangeF 10 11) 5), (loadL (pointF 6) 7), (loadL (rangeF 20 22) 2)], rule, most⟩ : DBook)
theorem bookL_calls  (rule : Int) (most : Int) (w : World)   : Calls Tryd.prog 64 #[iv rule, iv most] w fun e w' => ∃ v0, e = .returned (.agg #[v0, iv (bookL rule most).rule, iv (bookL rule most).most]) ∧ Below w.heap.size w w' ∧ w'.ownsRow w.heap.size 61 3 v0 (bookL rule most).loads.length (flat (bookL rule most).loads encLoad) := by
  refine calls_of_WP (cx := cx0 w Eng.n0 0) (n := Eng.n0) (vs := [.s (.int .i64 rule), .s (.int .i64 most)]) (hp := []) (nx := 0) tt_ok Tryd.func64 rfl rfl rfl (by kernel_rfl) (HSat0 _ _ _ _ _ _ (fun _ => rfl) (Nat.le_refl _)) (vsOk (by kernel_rfl)) ?_
  refine WP_seq (WP_region (WPO_all tt_ok (by kernel_rfl) ?_))
  refine WP_seq (WP_region (CALL 40 [.s (.int .i64 10), .s (.int .i64 12)] (.g [.int .i64 (rangeF 10 12).lo, .int .i64 (rangeF 10 12).hi]) [] (by kernel_rfl) (goes_of (by kernel_rfl)) (by kernel_rfl) (by kernel_rfl) (fun _ nV w h => rangeF_calls  10 12 w  ) ?_))
  refine CALL 42 [.g [.int .i64 (rangeF 10 12).lo, .int .i64 (rangeF 10 12).hi], .s (.int .i64 5)] (.g [.int .i64 (loadL (rangeF 10 12) 5).w.lo, .int .i64 (loadL (rangeF 10 12) 5).w.hi, .int .i64 (loadL (rangeF 10 12) 5).lanes]) [] (by kernel_rfl) (goes_of (by kernel_rfl)) (by kernel_rfl) (by kernel_rfl) (fun _ nV w h => loadL_calls  (rangeF 10 12) 5 w  ) ?_
  refine CALL 40 [.s (.int .i64 10), .s (.int .i64 11)] (.g [.int .i64 (rangeF 10 11).lo, .int .i64 (rangeF 10 11).hi]) [] (by kernel_rfl) (goes_of (by kernel_rfl)) (by kernel_rfl) (by kernel_rfl) (fun _ nV w h => rangeF_calls  10 11 w  ) ?_
  refine CALL 42 [.g [.int .i64 (rangeF 10 11).lo, .int .i64 (rangeF 10 11).hi], .s (.int .i64 5)] (.g [.int .i64 (loadL (rangeF 10 11) 5).w.lo, .int .i64 (loadL (rangeF 10 11) 5).w.hi, .int .i64 (loadL (rangeF 10 11) 5).lanes]) [] (by kernel_rfl) (goes_of (by kernel_rfl)) (by kernel_rfl) (by kernel_rfl) (fun _ nV w h => loadL_calls  (rangeF 10 11) 5 w  ) ?_
  refine CALL 65 [.s (.int .i64 6)] (.g [.int .i64 (pointF 6).lo, .int .i64 (pointF 6).hi]) [] (by kernel_rfl) (goes_of (by kernel_rfl)) (by kernel_rfl) (by kernel_rfl) (fun _ nV w h => pointF_calls  6 w  ) ?_
  refine CALL 42 [.g [.int .i64 (pointF 6).lo, .int .i64 (pointF 6).hi], .s (.int .i64 7)] (.g [.int .i64 (loadL (pointF 6) 7).w.lo, .int .i64 (loadL (pointF 6) 7).w.hi, .int .i64 (loadL (pointF 6) 7).lanes]) [] (by kernel_rfl) (goes_of (by kernel_rfl)) (by kernel_rfl) (by kernel_rfl) (fun _ nV w h => loadL_calls  (pointF 6) 7 w  ) ?_
  refine CALL 40 [.s (.int .i64 20), .s (.int .i64 22)] (.g [.int .i64 (rangeF 20 22).lo, .int .i64 (rangeF 20 22).hi]) [] (by kernel_rfl) (goes_of (by kernel_rfl)) (by kernel_rfl) (by kernel_rfl) (fun _ nV w h => rangeF_calls  20 22 w  ) ?_
  refine CALL 42 [.g [.int .i64 (rangeF 20 22).lo, .int .i64 (rangeF 20 22).hi], .s (.int .i64 2)] (.g [.int .i64 (loadL (rangeF 20 22) 2).w.lo, .int .i64 (loadL (rangeF 20 22) 2).w.hi, .int .i64 (loadL (rangeF 20 22) 2).lanes]) [] (by kernel_rfl) (goes_of (by kernel_rfl)) (by kernel_rfl) (by kernel_rfl) (fun _ nV w h => loadL_calls  (rangeF 20 22) 2 w  ) ?_
  refine LIT tt_ok (by kernel_rfl) ?_
  refine LITSL 1 61 4 3 [.int .i64 (loadL (rangeF 10 12) 5).w.lo, .int .i64 (loadL (rangeF 10 12) 5).w.hi, .int .i64 (loadL (rangeF 10 12) 5).lanes, .int .i64 (loadL (rangeF 10 11) 5).w.lo, .int .i64 (loadL (rangeF 10 11) 5).w.hi, .int .i64 (loadL (rangeF 10 11) 5).lanes, .int .i64 (loadL (pointF 6) 7).w.lo, .int .i64 (loadL (pointF 6) 7).w.hi, .int .i64 (loadL (pointF 6) 7).lanes, .int .i64 (loadL (rangeF 20 22) 2).w.lo, .int .i64 (loadL (rangeF 20 22) 2).w.hi, .int .i64 (loadL (rangeF 20 22) 2).lanes] [(loadL (rangeF 10 12) 5), (loadL (rangeF 10 11) 5), (loadL (pointF 6) 7), (loadL (rangeF 20 22) 2)] encLoad zLoad (by kernel_rfl) rfl (fun _ => rfl) (fun n => rfl) ?_
  refine WPO_all tt_ok (by kernel_rfl) ?_
  refine WP_ret ?_
  exact ⟨.g [.ref 1, .int .i64 rule, .int .i64 most], by kernel_rfl, fun nV w' h => ⟨nV 1, by rw [show bookL rule most = (⟨[(loadL (rangeF 10 12) 5), (loadL (rangeF 10 11) 5), (loadL (pointF 6) 7), (loadL (rangeF 20 22) 2)], rule, most⟩ : DBook) from rfl]; rfl, h.bel, by rw [show bookL rule most = (⟨[(loadL (rangeF 10 12) 5), (loadL (rangeF 10 11) 5), (loadL (pointF 6) 7), (loadL (rangeF 20 22) 2)], rule, most⟩ : DBook) from rfl]; exact own_of (z := zLoad) h (by kernel_rfl)⟩⟩
def ownL  : DBook :=
  (bookL 12 40)
theorem ownL_calls   (w : World)   : Calls Tryd.prog 63 #[] w fun e w' => ∃ v0, e = .returned (.agg #[v0, iv ownL.rule, iv ownL.most]) ∧ Below w.heap.size w w' ∧ w'.ownsRow w.heap.size 61 3 v0 ownL.loads.length (flat ownL.loads encLoad) := by
  refine calls_of_WP (cx := cx0 w Eng.n0 0) (n := Eng.n0) (vs := []) (hp := []) (nx := 0) tt_ok Tryd.func63 rfl rfl rfl (by kernel_rfl) (HSat0 _ _ _ _ _ _ (fun _ => rfl) (Nat.le_refl _)) (vsOk (by kernel_rfl)) ?_
  refine WP_seq (WP_region (WPO_all tt_ok (by kernel_rfl) ?_))
  refine WP_seq (WP_region (CALLO 64 [.s (.int .i64 12), .s (.int .i64 40)] (.g [.ref 1, .int .i64 (bookL 12 40).rule, .int .i64 (bookL 12 40).most]) 61 3 (bookL 12 40).loads encLoad zLoad 1 (by kernel_rfl) (by kernel_rfl) (goes_of (by kernel_rfl)) (by kernel_rfl) (by kernel_rfl) (fun _ => rfl) ((fun nV w h => bookL_calls  12 40 w  )) ?_))
  refine WPO_all tt_ok (by kernel_rfl) ?_
  refine WP_ret ?_
  exact ⟨.g [.ref 1, .int .i64 (bookL 12 40).rule, .int .i64 (bookL 12 40).most], by kernel_rfl, fun nV w' h => ⟨nV 1, by rw [show ownL = (bookL 12 40) from rfl]; rfl, h.bel, by rw [show ownL = (bookL 12 40) from rfl]; exact own_of (z := zLoad) h (by kernel_rfl)⟩⟩
def strictL  : DBook :=
  (bookL 11 40)
theorem strictL_calls   (w : World)   : Calls Tryd.prog 67 #[] w fun e w' => ∃ v0, e = .returned (.agg #[v0, iv strictL.rule, iv strictL.most]) ∧ Below w.heap.size w w' ∧ w'.ownsRow w.heap.size 61 3 v0 strictL.loads.length (flat strictL.loads encLoad) := by
  refine calls_of_WP (cx := cx0 w Eng.n0 0) (n := Eng.n0) (vs := []) (hp := []) (nx := 0) tt_ok Tryd.func67 rfl rfl rfl (by kernel_rfl) (HSat0 _ _ _ _ _ _ (fun _ => rfl) (Nat.le_refl _)) (vsOk (by kernel_rfl)) ?_
  refine WP_seq (WP_region (WPO_all tt_ok (by kernel_rfl) ?_))
  refine WP_seq (WP_region (CALLO 64 [.s (.int .i64 11), .s (.int .i64 40)] (.g [.ref 1, .int .i64 (bookL 11 40).rule, .int .i64 (bookL 11 40).most]) 61 3 (bookL 11 40).loads encLoad zLoad 1 (by kernel_rfl) (by kernel_rfl) (goes_of (by kernel_rfl)) (by kernel_rfl) (by kernel_rfl) (fun _ => rfl) ((fun nV w h => bookL_calls  11 40 w  )) ?_))
  refine WPO_all tt_ok (by kernel_rfl) ?_
  refine WP_ret ?_
  exact ⟨.g [.ref 1, .int .i64 (bookL 11 40).rule, .int .i64 (bookL 11 40).most], by kernel_rfl, fun nV w' h => ⟨nV 1, by rw [show strictL = (bookL 11 40) from rfl]; rfl, h.bel, by rw [show strictL = (bookL 11 40) from rfl]; exact own_of (z := zLoad) h (by kernel_rfl)⟩⟩
def lightL  : DBook :=
  (bookL 12 28)
theorem lightL_calls   (w : World)   : Calls Tryd.prog 71 #[] w fun e w' => ∃ v0, e = .returned (.agg #[v0, iv lightL.rule, iv lightL.most]) ∧ Below w.heap.size w w' ∧ w'.ownsRow w.heap.size 61 3 v0 lightL.loads.length (flat lightL.loads encLoad) := by
  refine calls_of_WP (cx := cx0 w Eng.n0 0) (n := Eng.n0) (vs := []) (hp := []) (nx := 0) tt_ok Tryd.func71 rfl rfl rfl (by kernel_rfl) (HSat0 _ _ _ _ _ _ (fun _ => rfl) (Nat.le_refl _)) (vsOk (by kernel_rfl)) ?_
  refine WP_seq (WP_region (WPO_all tt_ok (by kernel_rfl) ?_))
  refine WP_seq (WP_region (CALLO 64 [.s (.int .i64 12), .s (.int .i64 28)] (.g [.ref 1, .int .i64 (bookL 12 28).rule, .int .i64 (bookL 12 28).most]) 61 3 (bookL 12 28).loads encLoad zLoad 1 (by kernel_rfl) (by kernel_rfl) (goes_of (by kernel_rfl)) (by kernel_rfl) (by kernel_rfl) (fun _ => rfl) ((fun nV w h => bookL_calls  12 28 w  )) ?_))
  refine WPO_all tt_ok (by kernel_rfl) ?_
  refine WP_ret ?_
  exact ⟨.g [.ref 1, .int .i64 (bookL 12 28).rule, .int .i64 (bookL 12 28).most], by kernel_rfl, fun nV w' h => ⟨nV 1, by rw [show lightL = (bookL 12 28) from rfl]; rfl, h.bel, by rw [show lightL = (bookL 12 28) from rfl]; exact own_of (z := zLoad) h (by kernel_rfl)⟩⟩
def wideL  : DBook :=
  (⟨ownL.loads ++ ([(loadL (pointF 30) 1)]), ownL.rule, ownL.most⟩ : DBook)
theorem wideL_calls   (w : World)   : Calls Tryd.prog 69 #[] w fun e w' => ∃ v0, e = .returned (.agg #[v0, iv wideL.rule, iv wideL.most]) ∧ Below w.heap.size w w' ∧ w'.ownsRow w.heap.size 61 3 v0 wideL.loads.length (flat wideL.loads encLoad) := by
  refine calls_of_WP (cx := cx0 w Eng.n0 0) (n := Eng.n0) (vs := []) (hp := []) (nx := 0) tt_ok Tryd.func69 rfl rfl rfl (by kernel_rfl) (HSat0 _ _ _ _ _ _ (fun _ => rfl) (Nat.le_refl _)) (vsOk (by kernel_rfl)) ?_
  have hol : ownL.loads.length = 4 := rfl
  refine WP_seq (WP_region (WPO_all tt_ok (by kernel_rfl) ?_))
  refine WP_seq (WP_region (CALLO 63 [] (.g [.ref 1, .int .i64 ownL.rule, .int .i64 ownL.most]) 61 3 ownL.loads encLoad zLoad 1 (by kernel_rfl) (by kernel_rfl) (goes_of (by kernel_rfl)) (by kernel_rfl) (by kernel_rfl) (fun _ => rfl) ((fun nV w h => ownL_calls   w  )) ?_))
  refine WPO_all tt_ok (by kernel_rfl) ?_
  refine WP_seq (WP_drawHM 7 [1] [2] (by kernel_rfl) (by kernel_rfl) ?_)
  refine H_run tt_ok [0, 1] (f' := 5) (by kernel_rfl) (by kernel_rfl) (by kernel_rfl) ?_
  refine H_step 2 (by kernel_rfl) (by kernel_rfl) (fun hfz cx' hx1 hx2 => ?_)
  refine CALL 65 [.s (.int .i64 30)] (.g [.int .i64 (pointF 30).lo, .int .i64 (pointF 30).hi]) [] (by kernel_rfl) (goes_of (by kernel_rfl)) (by kernel_rfl) (by kernel_rfl) (fun _ nV w h => pointF_calls  30 w  ) ?_
  refine WPO_end (by kernel_rfl) ⟨rfl, (hfz.fnds [2, 0] (by kernel_rfl) ⟨by kernel_rfl, by kernel_rfl, trivial⟩ (by kernel_rfl)), ?_⟩
  refine H_step 3 (by kernel_rfl) (by kernel_rfl) (fun hfz cx' hx1 hx2 => ?_)
  refine CALL 42 [.g [.int .i64 (pointF 30).lo, .int .i64 (pointF 30).hi], .s (.int .i64 1)] (.g [.int .i64 (loadL (pointF 30) 1).w.lo, .int .i64 (loadL (pointF 30) 1).w.hi, .int .i64 (loadL (pointF 30) 1).lanes]) [] (by kernel_rfl) (goes_of (by kernel_rfl)) (by kernel_rfl) (by kernel_rfl) (fun _ nV w h => loadL_calls  (pointF 30) 1 w  ) ?_
  refine WPO_end (by kernel_rfl) ⟨rfl, (hfz.fnds [2, 0] (by kernel_rfl) ⟨by kernel_rfl, by kernel_rfl, trivial⟩ (by kernel_rfl)), ?_⟩
  refine H_step 4 (by kernel_rfl) (by kernel_rfl) (fun hfz cx' hx1 hx2 => ?_)
  refine LIT tt_ok (by kernel_rfl) ?_
  refine LITSL 3 61 1 3 [.int .i64 (loadL (pointF 30) 1).w.lo, .int .i64 (loadL (pointF 30) 1).w.hi, .int .i64 (loadL (pointF 30) 1).lanes] [(loadL (pointF 30) 1)] encLoad zLoad (by kernel_rfl) rfl (fun _ => rfl) (fun n => rfl) ?_
  refine WPO_end (by kernel_rfl) ⟨rfl, (hfz.fnds [2, 0] (by kernel_rfl) ⟨by kernel_rfl, by kernel_rfl, trivial⟩ (by kernel_rfl)), ?_⟩
  refine H_step 5 (by kernel_rfl) (by kernel_rfl) (fun hfz cx' hx1 hx2 => ?_)
  refine APP tt_ok (.s (.ref 1)) (.s (.ref 3)) 22 61 (some 8) 3 ownL.loads ([(loadL (pointF 30) 1)]) encLoad zLoad (by kernel_rfl) (by kernel_rfl) (by kernel_rfl) (by kernel_rfl) (.inr (.inl ⟨1, rfl, (by kernel_rfl)⟩)) (.inr ⟨3, .own, rfl, (by kernel_rfl), (by simp only [List.length_cons, List.length_nil]; omega)⟩) (by simp) (fun y => rfl) (fun y => List.all_eq_true.1 rfl) (fun i hi => (by have hby : (tyL tt 61).map (·.bytes) = some 24 := (by kernel_rfl); rw [hi] at hby; simp only [Option.map_some, Option.some.injEq] at hby; rw [hby]; simp only [List.length_append, List.length_cons, List.length_nil]; omega)) ?_
  refine WPO_end (by kernel_rfl) ⟨rfl, (hfz.fnds [2, 0] (by kernel_rfl) ⟨by kernel_rfl, by kernel_rfl, trivial⟩ (by kernel_rfl)), ?_⟩
  refine H_run tt_ok [6] (f' := 0) (by kernel_rfl) (by kernel_rfl) (by kernel_rfl) ?_
  refine H_done (by kernel_rfl) ?_
  refine ⟨(by kernel_rfl), ?_⟩
  refine H_step 7 (by kernel_rfl) (by kernel_rfl) (fun hfz cx' hx1 hx2 => ?_)
  refine WPO_all tt_ok (by kernel_rfl) ?_
  refine ⟨rfl, (hfz.fnds [4, 3, 0] (by kernel_rfl) ⟨by kernel_rfl, by kernel_rfl, by kernel_rfl, trivial⟩ (by kernel_rfl)), ?_⟩
  refine H_done (by kernel_rfl) ?_
  refine WP_seq (WP_region (WPO_all tt_ok (by kernel_rfl) ?_))
  refine WP_ret ?_
  exact ⟨.g [.ref 4, .int .i64 ownL.rule, .int .i64 ownL.most], by kernel_rfl, fun nV w' h => ⟨nV 4, by rw [show wideL = (⟨ownL.loads ++ ([(loadL (pointF 30) 1)]), ownL.rule, ownL.most⟩ : DBook) from rfl]; rfl, h.bel, by rw [show wideL = (⟨ownL.loads ++ ([(loadL (pointF 30) 1)]), ownL.rule, ownL.most⟩ : DBook) from rfl]; exact own_of (z := zLoad) h (by kernel_rfl)⟩⟩
def bothL  : (List Place) :=
  [(placeL 0 0), (placeL 1 2)]
theorem bothL_calls   (w : World)   : Calls Tryd.prog 68 #[] w fun e w' => ∃ v0, e = .returned (v0) ∧ Below w.heap.size w w' ∧ w'.ownsRow w.heap.size 65 2 v0 bothL.length (flat bothL encPlace) := by
  refine calls_of_WP (cx := cx0 w Eng.n0 0) (n := Eng.n0) (vs := []) (hp := []) (nx := 0) tt_ok Tryd.func68 rfl rfl rfl (by kernel_rfl) (HSat0 _ _ _ _ _ _ (fun _ => rfl) (Nat.le_refl _)) (vsOk (by kernel_rfl)) ?_
  refine WP_seq (WP_region (WPO_all tt_ok (by kernel_rfl) ?_))
  refine WP_seq (WP_region (CALL 44 [.s (.int .i64 0), .s (.int .i64 0)] (.g [.int .i64 (placeL 0 0).load, .int .i64 (placeL 0 0).lane]) [] (by kernel_rfl) (goes_of (by kernel_rfl)) (by kernel_rfl) (by kernel_rfl) (fun _ nV w h => placeL_calls  0 0 w  ) ?_))
  refine CALL 44 [.s (.int .i64 1), .s (.int .i64 2)] (.g [.int .i64 (placeL 1 2).load, .int .i64 (placeL 1 2).lane]) [] (by kernel_rfl) (goes_of (by kernel_rfl)) (by kernel_rfl) (by kernel_rfl) (fun _ nV w h => placeL_calls  1 2 w  ) ?_
  refine LIT tt_ok (by kernel_rfl) ?_
  refine LITSL 0 65 2 2 [.int .i64 (placeL 0 0).load, .int .i64 (placeL 0 0).lane, .int .i64 (placeL 1 2).load, .int .i64 (placeL 1 2).lane] [(placeL 0 0), (placeL 1 2)] encPlace zPlace (by kernel_rfl) rfl (fun _ => rfl) (fun n => rfl) ?_
  refine WPO_all tt_ok (by kernel_rfl) ?_
  refine WP_ret ?_
  exact ⟨.s (.ref 0), by kernel_rfl, fun nV w' h => ⟨nV 0, rfl, h.bel, by rw [show bothL = ([(placeL 0 0), (placeL 1 2)]) from rfl]; exact own_of (z := zPlace) h (by kernel_rfl)⟩⟩
def sameL_c1 (l : List Place) (m : List Place) (k1 : Nat) : Unit → Bool := fun _ => decide ((k1 : Int) < (l.length : Int))
def sameL_b1 (l : List Place) (m : List Place) (k1 : Nat) : Unit → Bd Unit Bool := fun _ => (bif !((l.getD k1 zPlace).load == (m.getD k1 zPlace).load && (l.getD k1 zPlace).lane == (m.getD k1 zPlace).lane) then .ret false else .go ())
def sameL (l : List Place) (m : List Place) : Bool :=
  (bif (l.length : Int) != (m.length : Int) then false else (match loopR (sameL_c1 l m) (sameL_b1 l m) l.length 0 () with | .brk () => true | .ret r => r))
theorem sameL_calls (g0 g1 : Value) (l : List Place) (m : List Place) (w : World) (r0 : Reads w g0 2 l encPlace zPlace) (r1 : Reads w g1 2 m encPlace zPlace)  : Calls Tryd.prog 70 #[g0, g1] w fun e w' => e = .returned (.bool (sameL l m)) ∧ Below w.heap.size w w' := by
  refine calls_of_WP (cx := cx0 w (vn [g0, g1]) 2) (n := vn [g0, g1]) (vs := [.s (.ref 0), .s (.ref 1)]) (hp := [(0, .sl .ro 65 2 l encPlace zPlace), (1, .sl .ro 65 2 m encPlace zPlace)]) (nx := 2) tt_ok Tryd.func70 rfl rfl rfl (by kernel_rfl) (HSat_args (vn_one (by simp [r0.one, r1.one])) (Nat.le_refl _) ⟨⟨⟨fun _ => rfl, by decide, r0⟩, (Nat.le_of_ble_eq_true rfl)⟩, ⟨⟨fun _ => rfl, by decide, r1⟩, (Nat.le_of_ble_eq_true rfl)⟩, trivial⟩) (vsOk (by kernel_rfl)) ?_
  have hl0 := Reads.len r0
  have hl1 := Reads.len r1
  refine WP_seq (WP_region (WPO_all tt_ok (by kernel_rfl) ?_))
  refine WP_seq (WP_seq (WP_region (WPO_all tt_ok (by kernel_rfl) ?_)))
  refine WP_cond ((l.length : Int) != (m.length : Int)) (by kernel_rfl) (fun hc2 => ?_) (fun hc2 => ?_)
  · have hc2' := hc2; try simp only [Bool.and_eq_true, Bool.or_eq_true, Bool.and_eq_false_iff, Bool.or_eq_false_iff, Bool.not_eq_true', Bool.not_eq_false', decide_eq_true_eq, decide_eq_false_iff_not, beq_iff_eq, beq_eq_false_iff_ne, bne_iff_ne, bne_eq_false_iff_eq, ne_eq] at hc2'
    refine WP_seq (WP_region (WPO_all tt_ok (by kernel_rfl) ?_))
    refine WP_ret ?_
    exact ⟨.s (.bool false), by kernel_rfl, fun nV w' h => ⟨by rw [show sameL l m = false from by unfold sameL; simp only [hc2, cond_true, cond_false]]; rfl, h.bel⟩⟩
  have hc2' := hc2; try simp only [Bool.and_eq_true, Bool.or_eq_true, Bool.and_eq_false_iff, Bool.or_eq_false_iff, Bool.not_eq_true', Bool.not_eq_false', decide_eq_true_eq, decide_eq_false_iff_not, beq_iff_eq, beq_eq_false_iff_ne, bne_iff_ne, bne_eq_false_iff_eq, ne_eq] at hc2'
  refine WP_skip ?_
  refine WP_seq (WP_seq (WP_region (WPO_all tt_ok (by kernel_rfl) ?_)))
  refine WP_loopA (ρ := Bool) (sameL_c1 l m) (sameL_b1 l m) l.length () (fun k : Nat => (k : Int)) (fun (ci : Int) (zz : Unit) => ⟨26, [(5, [], .s (.int .i64 ci)), (0, [], .s (.ref 0)), (1, [], .s (.ref 1))], [(0, .sl .ro 65 2 l encPlace zPlace), (1, .sl .ro 65 2 m encPlace zPlace)], 2, []⟩) (fun zz : Unit => ⟨26, [], [(0, .sl .ro 65 2 l encPlace zPlace), (1, .sl .ro 65 2 m encPlace zPlace)], 2, []⟩) (fun k zz => True) trivial ⟨0, rfl, Le_sel (ts := [5, 0, 1]) (ids := [0, 1]) (nx := 2) (by kernel_rfl)⟩ ?_ ?_
  · intro k1 zz hn1 hp1 hi1 Q1 hq1 ho1
    refine WP_seq (WP_seq (WP_region (WPO_all tt_ok (by kernel_rfl) ?_)))
    refine WP_cond (decide ((k1 : Int) < (l.length : Int))) (by kernel_rfl) (fun hc3 => ?_) (fun hc3 => ?_)
    rotate_left
    · refine WP_exit ?_
      show Q1 (.exit 0) _
      exact LA_exit hq1 () (loopR_end hi1 hc3) ⟨k1, hn1, hp1⟩ (Le_sel (ts := []) (ids := [0, 1]) (nx := 2) (by kernel_rfl))
    have hc3' := of_decide_eq_true hc3
    have hk1 : k1 < l.length := by omega
    refine WP_skip ?_
    refine WP_seq (WP_block ?_)
    refine WP_seq (WP_draw (by kernel_rfl) (by kernel_rfl) ?_)
    refine WPQ_run tt_ok 2 (by kernel_rfl) ?_
    refine QIX tt_ok (k1 : Int) l.length [] (by kernel_rfl) (fun hG => ⟨by omega, by omega⟩) ?_
    refine WPQ_run tt_ok 3 (by kernel_rfl) ?_
    refine QIX tt_ok (k1 : Int) m.length [] (by kernel_rfl) (fun hG => ⟨by omega, by omega⟩) ?_
    refine WPQ_run tt_ok 1 (by kernel_rfl) ?_
    refine QBIN .neq 65 (.tmp 20) (.tmp 24) (.g [.int .i64 (l.getD k1 zPlace).load, .int .i64 (l.getD k1 zPlace).lane]) (.g [.int .i64 (m.getD k1 zPlace).load, .int .i64 (m.getD k1 zPlace).lane]) (.s (.bool (!((l.getD k1 zPlace).load == (m.getD k1 zPlace).load && (l.getD k1 zPlace).lane == (m.getD k1 zPlace).lane)))) [] (by kernel_rfl) (by kernel_rfl) (by kernel_rfl) (fun _ => BinOk_pairN (by kernel_rfl) _ _ _ _) ?_
    refine WPQ_nil ?_
    refine WP_cond (!((l.getD k1 zPlace).load == (m.getD k1 zPlace).load && (l.getD k1 zPlace).lane == (m.getD k1 zPlace).lane)) (by kernel_rfl) (fun hc5 => ?_) (fun hc5 => ?_)
    · have hc5' := hc5; try simp only [Bool.and_eq_true, Bool.or_eq_true, Bool.and_eq_false_iff, Bool.or_eq_false_iff, Bool.not_eq_true', Bool.not_eq_false', decide_eq_true_eq, decide_eq_false_iff_not, beq_iff_eq, beq_eq_false_iff_ne, bne_iff_ne, bne_eq_false_iff_eq, ne_eq] at hc5'
      refine WP_seq (WP_region (WPO_all tt_ok (by kernel_rfl) ?_))
      refine WP_ret ?_
      show Q1 .ret _
      refine LA_ret hq1 ?_
      have he6 := loopR_ret (r := false) hi1 hk1 hc3 (by unfold sameL_b1; simp only [hc5, cond_true, cond_false])
      exact ⟨.s (.bool false), by kernel_rfl, fun nV w' h => ⟨by rw [show sameL l m = false from by unfold sameL; simp only [hc2, he6, cond_true, cond_false]]; rfl, h.bel⟩⟩
    have hc5' := hc5; try simp only [Bool.and_eq_true, Bool.or_eq_true, Bool.and_eq_false_iff, Bool.or_eq_false_iff, Bool.not_eq_true', Bool.not_eq_false', decide_eq_true_eq, decide_eq_false_iff_not, beq_iff_eq, beq_eq_false_iff_ne, bne_iff_ne, bne_eq_false_iff_eq, ne_eq] at hc5'
    refine WP_skip ?_
    refine WP_region (WPO_all tt_ok (by kernel_rfl) ?_)
    show Q1 .normal _
    exact LA_go hq1 (ci := IntKind.i64.wrap ((k1 : Int) + 1)) () hk1 (by show _ = ((k1 + 1 : Nat) : Int); rw [wrapI (by omega) (by omega)]; omega) (loopR_go hi1 hk1 hc3 (by unfold sameL_b1; simp only [hc5, cond_true, cond_false])) trivial (Le_sel (ts := [5, 0, 1]) (ids := [0, 1]) (nx := 2) (by kernel_rfl))
  intro zz hR1 hP1 s' hl
  refine WP_le hl ?_
  clear hl s'
  refine WP_seq (WP_region (WPO_all tt_ok (by kernel_rfl) ?_))
  refine WP_ret ?_
  exact ⟨.s (.bool true), by kernel_rfl, fun nV w' h => ⟨by rw [show sameL l m = true from by unfold sameL; simp only [hc2, hR1, cond_true, cond_false]]; rfl, h.bel⟩⟩
end Go.Proofs.YthfnedbpmdkdjaaDoor.D
namespace Go.Proofs.YthfnedbpmdkdjaaDoor.D
open Go Go.RowKit Go.Proofs.YthfnedbpmdkdjaaDoor.Eng Go.Proofs.YthfnedbpmdkdjaaDoor.Cm
set_option linter.unusedVariables false
set_option linter.unusedSimpArgs false
set_option linter.unusedSectionVars false
def stowedL  : Bool :=
  (bif ((((((((((listA ownL bothL).2 != 0) || ((levelA strictL ([(placeL 0 0)])).2 != 0)) || ((tiltsA ownL ([(placeL 0 0), (placeL 1 0)])).2 != 0)) || ((stowA strictL ([0, 1])).2 != 0)) || ((mostA ownL).2 != 0)) || (!((listA ownL bothL).1.lo == (rangeF (-1) 2).lo && (listA ownL bothL).1.hi == (rangeF (-1) 2).hi))) || ((levelA strictL ([(placeL 0 0)])).1 != 1)) || ((tiltsA ownL ([(placeL 0 0), (placeL 1 0)])).1 != 1)) || (!(sameL (stowA strictL ([0, 1])).1 (bif (true && ((((((((((listA ownL bothL).2 != 0) || ((levelA strictL ([(placeL 0 0)])).2 != 0)) || ((tiltsA ownL ([(placeL 0 0), (placeL 1 0)])).2 != 0)) || ((stowA strictL ([0, 1])).2 != 0)) || ((mostA ownL).2 != 0)) || (!((listA ownL bothL).1.lo == (rangeF (-1) 2).lo && (listA ownL bothL).1.hi == (rangeF (-1) 2).hi))) || ((levelA strictL ([(placeL 0 0)])).1 != 1)) || ((tiltsA ownL ([(placeL 0 0), (placeL 1 0)])).1 != 1)) == false)) then [(placeL 1 0), (placeL 0 2)] else [])))) || (!(alikeF (mostA ownL).1 (bif (true && (((((((((((listA ownL bothL).2 != 0) || ((levelA strictL ([(placeL 0 0)])).2 != 0)) || ((tiltsA ownL ([(placeL 0 0), (placeL 1 0)])).2 != 0)) || ((stowA strictL ([0, 1])).2 != 0)) || ((mostA ownL).2 != 0)) || (!((listA ownL bothL).1.lo == (rangeF (-1) 2).lo && (listA ownL bothL).1.hi == (rangeF (-1) 2).hi))) || ((levelA strictL ([(placeL 0 0)])).1 != 1)) || ((tiltsA ownL ([(placeL 0 0), (placeL 1 0)])).1 != 1)) || (!(sameL (stowA strictL ([0, 1])).1 (bif (true && ((((((((((listA ownL bothL).2 != 0) || ((levelA strictL ([(placeL 0 0)])).2 != 0)) || ((tiltsA ownL ([(placeL 0 0), (placeL 1 0)])).2 != 0)) || ((stowA strictL ([0, 1])).2 != 0)) || ((mostA ownL).2 != 0)) || (!((listA ownL bothL).1.lo == (rangeF (-1) 2).lo && (listA ownL bothL).1.hi == (rangeF (-1) 2).hi))) || ((levelA strictL ([(placeL 0 0)])).1 != 1)) || ((tiltsA ownL ([(placeL 0 0), (placeL 1 0)])).1 != 1)) == false)) then [(placeL 1 0), (placeL 0 2)] else [])))) == false)) then [0, 1, 2] else []))) then false else ((((((fewestA lightL).2 == 0) && ((neverA wideL).2 == 0)) && ((weighA ownL).2 == 0)) && (alikeF (fewestA lightL).1 (bif (true && (((((fewestA lightL).2 == 0) && ((neverA wideL).2 == 0)) && ((weighA ownL).2 == 0)) == true)) then [0, 0, 1, 1] else []))) && (alikeF (neverA wideL).1 (bif (true && ((((((fewestA lightL).2 == 0) && ((neverA wideL).2 == 0)) && ((weighA ownL).2 == 0)) && (alikeF (fewestA lightL).1 (bif (true && (((((fewestA lightL).2 == 0) && ((neverA wideL).2 == 0)) && ((weighA ownL).2 == 0)) == true)) then [0, 0, 1, 1] else []))) == true)) then [4] else []))) && ((weighA ownL).1 == 0))
theorem stowedL_calls   (w : World)  (hnb : NobodyAt w) (hla : LanesAt w) : Calls Tryd.prog 21 #[] w fun e w' => e = .returned (.bool stowedL) ∧ Below w.heap.size w w' := by
  refine calls_of_WP (cx := cx0 w Eng.n0 0) (n := Eng.n0) (vs := []) (hp := [(0, .pf NobodyAt (· = 1)), (1, .pf LanesAt (· = 0))]) (nx := 2) tt_ok Tryd.func21 rfl rfl rfl (by kernel_rfl) (HSat_args (fun _ => rfl) (by decide) ⟨⟨⟨hnb, fun w1 w2 h1 hw => (hw 1 rfl).trans h1, fun g hg => by cases hg; exact (Array.getElem?_eq_some_iff.1 hnb).1⟩, (Nat.le_of_ble_eq_true rfl)⟩, ⟨⟨hla, fun w1 w2 h1 hw => (hw 0 rfl).trans h1, fun g hg => by cases hg; exact (Array.getElem?_eq_some_iff.1 hla).1⟩, (Nat.le_of_ble_eq_true rfl)⟩, trivial⟩) (vsOk (by kernel_rfl)) ?_
  refine WP_seq (WP_region (WPO_all tt_ok (by kernel_rfl) ?_))
  refine WP_seq (WP_region (CALLO 63 [] (.g [.ref 2, .int .i64 ownL.rule, .int .i64 ownL.most]) 61 3 ownL.loads encLoad zLoad 2 (by kernel_rfl) (by kernel_rfl) (goes_of (by kernel_rfl)) (by kernel_rfl) (by kernel_rfl) (fun _ => rfl) ((fun nV w h => ownL_calls   w  )) ?_))
  refine CALLO 68 [] (.s (.ref 3)) 65 2 bothL encPlace zPlace 3 (by kernel_rfl) (by kernel_rfl) (goes_of (by kernel_rfl)) (by kernel_rfl) (by kernel_rfl) (fun _ => rfl) ((fun nV w h => bothL_calls   w  )) ?_
  refine CALL 30 [.g [.ref 2, .int .i64 ownL.rule, .int .i64 ownL.most], .s (.ref 3)] (.t [(true, [.int .i64 (listA ownL bothL).1.lo, .int .i64 (listA ownL bothL).1.hi]), (false, [.int .i64 (listA ownL bothL).2])]) [] (by kernel_rfl) (goes_of (by kernel_rfl)) (by kernel_rfl) (by kernel_rfl) (fun _ nV w h => listA_calls (nV 2) (nV 3) ownL bothL w (h.reads (id := 2) (kd := .own) (e := 61) (by kernel_rfl)) (h.reads (id := 3) (kd := .own) (e := 65) (by kernel_rfl)) (h.ents (0, .pf NobodyAt (· = 1)) (fnd_mem (by kernel_rfl))).1 (h.ents (1, .pf LanesAt (· = 0)) (fnd_mem (by kernel_rfl))).1 ) ?_
  refine WPO_all tt_ok (by kernel_rfl) ?_
  refine WP_seq (WP_region (CALLO 67 [] (.g [.ref 5, .int .i64 strictL.rule, .int .i64 strictL.most]) 61 3 strictL.loads encLoad zLoad 5 (by kernel_rfl) (by kernel_rfl) (goes_of (by kernel_rfl)) (by kernel_rfl) (by kernel_rfl) (fun _ => rfl) ((fun nV w h => strictL_calls   w  )) ?_))
  refine CALL 44 [.s (.int .i64 0), .s (.int .i64 0)] (.g [.int .i64 (placeL 0 0).load, .int .i64 (placeL 0 0).lane]) [] (by kernel_rfl) (goes_of (by kernel_rfl)) (by kernel_rfl) (by kernel_rfl) (fun _ nV w h => placeL_calls  0 0 w  ) ?_
  refine LIT tt_ok (by kernel_rfl) ?_
  refine LITSL 6 65 1 2 [.int .i64 (placeL 0 0).load, .int .i64 (placeL 0 0).lane] [(placeL 0 0)] encPlace zPlace (by kernel_rfl) rfl (fun _ => rfl) (fun n => rfl) ?_
  refine CALL 31 [.g [.ref 5, .int .i64 strictL.rule, .int .i64 strictL.most], .s (.ref 6)] (.t [(false, [.int .i64 (levelA strictL ([(placeL 0 0)])).1]), (false, [.int .i64 (levelA strictL ([(placeL 0 0)])).2])]) [] (by kernel_rfl) (goes_of (by kernel_rfl)) (by kernel_rfl) (by kernel_rfl) (fun _ nV w h => levelA_calls (nV 5) (nV 6) strictL ([(placeL 0 0)]) w (h.reads (id := 5) (kd := .own) (e := 61) (by kernel_rfl)) (h.reads (id := 6) (kd := .own) (e := 65) (by kernel_rfl)) (h.ents (0, .pf NobodyAt (· = 1)) (fnd_mem (by kernel_rfl))).1 (h.ents (1, .pf LanesAt (· = 0)) (fnd_mem (by kernel_rfl))).1 ) ?_
  refine WPO_all tt_ok (by kernel_rfl) ?_
  refine WP_seq (WP_region (CALLO 63 [] (.g [.ref 7, .int .i64 ownL.rule, .int .i64 ownL.most]) 61 3 ownL.loads encLoad zLoad 7 (by kernel_rfl) (by kernel_rfl) (goes_of (by kernel_rfl)) (by kernel_rfl) (by kernel_rfl) (fun _ => rfl) ((fun nV w h => ownL_calls   w  )) ?_))
  refine CALL 44 [.s (.int .i64 0), .s (.int .i64 0)] (.g [.int .i64 (placeL 0 0).load, .int .i64 (placeL 0 0).lane]) [] (by kernel_rfl) (goes_of (by kernel_rfl)) (by kernel_rfl) (by kernel_rfl) (fun _ nV w h => placeL_calls  0 0 w  ) ?_
  refine CALL 44 [.s (.int .i64 1), .s (.int .i64 0)] (.g [.int .i64 (placeL 1 0).load, .int .i64 (placeL 1 0).lane]) [] (by kernel_rfl) (goes_of (by kernel_rfl)) (by kernel_rfl) (by kernel_rfl) (fun _ nV w h => placeL_calls  1 0 w  ) ?_
  refine LIT tt_ok (by kernel_rfl) ?_
  refine LITSL 8 65 2 2 [.int .i64 (placeL 0 0).load, .int .i64 (placeL 0 0).lane, .int .i64 (placeL 1 0).load, .int .i64 (placeL 1 0).lane] [(placeL 0 0), (placeL 1 0)] encPlace zPlace (by kernel_rfl) rfl (fun _ => rfl) (fun n => rfl) ?_
  refine CALL 32 [.g [.ref 7, .int .i64 ownL.rule, .int .i64 ownL.most], .s (.ref 8)] (.t [(false, [.int .i64 (tiltsA ownL ([(placeL 0 0), (placeL 1 0)])).1]), (false, [.int .i64 (tiltsA ownL ([(placeL 0 0), (placeL 1 0)])).2])]) [] (by kernel_rfl) (goes_of (by kernel_rfl)) (by kernel_rfl) (by kernel_rfl) (fun _ nV w h => tiltsA_calls (nV 7) (nV 8) ownL ([(placeL 0 0), (placeL 1 0)]) w (h.reads (id := 7) (kd := .own) (e := 61) (by kernel_rfl)) (h.reads (id := 8) (kd := .own) (e := 65) (by kernel_rfl)) (h.ents (0, .pf NobodyAt (· = 1)) (fnd_mem (by kernel_rfl))).1 (h.ents (1, .pf LanesAt (· = 0)) (fnd_mem (by kernel_rfl))).1 ) ?_
  refine WPO_all tt_ok (by kernel_rfl) ?_
  refine WP_seq (WP_region (CALLO 67 [] (.g [.ref 9, .int .i64 strictL.rule, .int .i64 strictL.most]) 61 3 strictL.loads encLoad zLoad 9 (by kernel_rfl) (by kernel_rfl) (goes_of (by kernel_rfl)) (by kernel_rfl) (by kernel_rfl) (fun _ => rfl) ((fun nV w h => strictL_calls   w  )) ?_))
  refine LIT tt_ok (by kernel_rfl) ?_
  refine LITSL 10 3 2 1 [.int .i64 0, .int .i64 1] [0, 1] encI 0 (by kernel_rfl) rfl (fun _ => rfl) (fun n => rfl) ?_
  refine CALLR 36 [.g [.ref 9, .int .i64 strictL.rule, .int .i64 strictL.most], .s (.ref 10)] (.t [(false, [.ref 11]), (false, [.int .i64 (stowA strictL ([0, 1])).2])]) 65 2 (stowA strictL ([0, 1])).1 encPlace zPlace 11 (by kernel_rfl) (by kernel_rfl) (goes_of (by kernel_rfl)) (by kernel_rfl) (by kernel_rfl) (by decide) (fun _ => rfl) (fun nV w h => (stowA_calls (nV 9) (nV 10) strictL ([0, 1]) w (h.reads (id := 9) (kd := .own) (e := 61) (by kernel_rfl)) (h.reads (id := 10) (kd := .own) (e := 3) (by kernel_rfl)) (h.ents (0, .pf NobodyAt (· = 1)) (fnd_mem (by kernel_rfl))).1 (h.ents (1, .pf LanesAt (· = 0)) (fnd_mem (by kernel_rfl))).1 ).mono fun e w' h1 => weak_fresh h1) ?_
  refine WPO_all tt_ok (by kernel_rfl) ?_
  refine WP_seq (WP_region (CALLO 63 [] (.g [.ref 12, .int .i64 ownL.rule, .int .i64 ownL.most]) 61 3 ownL.loads encLoad zLoad 12 (by kernel_rfl) (by kernel_rfl) (goes_of (by kernel_rfl)) (by kernel_rfl) (by kernel_rfl) (fun _ => rfl) ((fun nV w h => ownL_calls   w  )) ?_))
  refine CALLR 45 [.g [.ref 12, .int .i64 ownL.rule, .int .i64 ownL.most]] (.t [(false, [.ref 13]), (false, [.int .i64 (mostA ownL).2])]) 3 1 (mostA ownL).1 encI 0 13 (by kernel_rfl) (by kernel_rfl) (goes_of (by kernel_rfl)) (by kernel_rfl) (by kernel_rfl) (by decide) (fun _ => rfl) (fun nV w h => (mostA_calls (nV 12) ownL w (h.reads (id := 12) (kd := .own) (e := 61) (by kernel_rfl)) (h.ents (0, .pf NobodyAt (· = 1)) (fnd_mem (by kernel_rfl))).1 (h.ents (1, .pf LanesAt (· = 0)) (fnd_mem (by kernel_rfl))).1 ).mono fun e w' h1 => weak_fresh h1) ?_
  refine WPO_all tt_ok (by kernel_rfl) ?_
  refine WP_seq (WP_seq (WP_drawH [] (by kernel_rfl) (by kernel_rfl) ?_))
  refine H_run tt_ok [0, 1, 2, 3, 4, 5, 6, 7, 8, 9, 10, 11, 12, 13, 14, 15, 16, 17, 18, 19] (f' := 25) (by kernel_rfl) (by kernel_rfl) (by kernel_rfl) ?_
  refine H_step 20 (by kernel_rfl) (by kernel_rfl) (fun hfz cx' hx1 hx2 => ?_)
  refine CALL 40 [.s (.int .i64 (-1)), .s (.int .i64 2)] (.g [.int .i64 (rangeF (-1) 2).lo, .int .i64 (rangeF (-1) 2).hi]) [((((((listA ownL bothL).2 != 0) || ((levelA strictL ([(placeL 0 0)])).2 != 0)) || ((tiltsA ownL ([(placeL 0 0), (placeL 1 0)])).2 != 0)) || ((stowA strictL ([0, 1])).2 != 0)) || ((mostA ownL).2 != 0), false)] (by kernel_rfl) (goes_of (by kernel_rfl)) (by kernel_rfl) (by kernel_rfl) (fun _ nV w h => rangeF_calls  (-1) 2 w  ) ?_
  refine WPO_end (by kernel_rfl) ⟨rfl, (hfz.fnds [13, 12, 11, 10, 9, 8, 7, 6, 5, 4, 3, 2, 0, 1] (by kernel_rfl) ⟨by kernel_rfl, by kernel_rfl, by kernel_rfl, by kernel_rfl, by kernel_rfl, by kernel_rfl, by kernel_rfl, by kernel_rfl, by kernel_rfl, by kernel_rfl, by kernel_rfl, by kernel_rfl, by kernel_rfl, by kernel_rfl, trivial⟩ (by kernel_rfl)), ?_⟩
  refine H_BIN 21 .neq 43 (.tmp 65) (.tmp 66) (.g [.int .i64 (listA ownL bothL).1.lo, .int .i64 (listA ownL bothL).1.hi]) (.g [.int .i64 (rangeF (-1) 2).lo, .int .i64 (rangeF (-1) 2).hi]) (.s (.bool (!((listA ownL bothL).1.lo == (rangeF (-1) 2).lo && (listA ownL bothL).1.hi == (rangeF (-1) 2).hi)))) [((((((listA ownL bothL).2 != 0) || ((levelA strictL ([(placeL 0 0)])).2 != 0)) || ((tiltsA ownL ([(placeL 0 0), (placeL 1 0)])).2 != 0)) || ((stowA strictL ([0, 1])).2 != 0)) || ((mostA ownL).2 != 0), false)] (by kernel_rfl) (by kernel_rfl) (by kernel_rfl) (fun _ _ => BinOk_pairN (by kernel_rfl) _ _ _ _) (by kernel_rfl) (by kernel_rfl) ?_
  refine H_run tt_ok [22, 23, 24, 25, 26, 27, 28, 29, 30, 31, 32] (f' := 12) (by kernel_rfl) (by kernel_rfl) (by kernel_rfl) ?_
  refine H_step 33 (by kernel_rfl) (by kernel_rfl) (fun hfz cx' hx1 hx2 => ?_)
  refine CALL 44 [.s (.int .i64 1), .s (.int .i64 0)] (.g [.int .i64 (placeL 1 0).load, .int .i64 (placeL 1 0).lane]) [(((((((((listA ownL bothL).2 != 0) || ((levelA strictL ([(placeL 0 0)])).2 != 0)) || ((tiltsA ownL ([(placeL 0 0), (placeL 1 0)])).2 != 0)) || ((stowA strictL ([0, 1])).2 != 0)) || ((mostA ownL).2 != 0)) || (!((listA ownL bothL).1.lo == (rangeF (-1) 2).lo && (listA ownL bothL).1.hi == (rangeF (-1) 2).hi))) || ((levelA strictL ([(placeL 0 0)])).1 != 1)) || ((tiltsA ownL ([(placeL 0 0), (placeL 1 0)])).1 != 1), false)] (by kernel_rfl) (goes_of (by kernel_rfl)) (by kernel_rfl) (by kernel_rfl) (fun _ nV w h => placeL_calls  1 0 w  ) ?_
  refine WPO_end (by kernel_rfl) ⟨rfl, (hfz.fnds [13, 12, 11, 10, 9, 8, 7, 6, 5, 4, 3, 2, 0, 1] (by kernel_rfl) ⟨by kernel_rfl, by kernel_rfl, by kernel_rfl, by kernel_rfl, by kernel_rfl, by kernel_rfl, by kernel_rfl, by kernel_rfl, by kernel_rfl, by kernel_rfl, by kernel_rfl, by kernel_rfl, by kernel_rfl, by kernel_rfl, trivial⟩ (by kernel_rfl)), ?_⟩
  refine H_step 34 (by kernel_rfl) (by kernel_rfl) (fun hfz cx' hx1 hx2 => ?_)
  refine CALL 44 [.s (.int .i64 0), .s (.int .i64 2)] (.g [.int .i64 (placeL 0 2).load, .int .i64 (placeL 0 2).lane]) [(((((((((listA ownL bothL).2 != 0) || ((levelA strictL ([(placeL 0 0)])).2 != 0)) || ((tiltsA ownL ([(placeL 0 0), (placeL 1 0)])).2 != 0)) || ((stowA strictL ([0, 1])).2 != 0)) || ((mostA ownL).2 != 0)) || (!((listA ownL bothL).1.lo == (rangeF (-1) 2).lo && (listA ownL bothL).1.hi == (rangeF (-1) 2).hi))) || ((levelA strictL ([(placeL 0 0)])).1 != 1)) || ((tiltsA ownL ([(placeL 0 0), (placeL 1 0)])).1 != 1), false)] (by kernel_rfl) (goes_of (by kernel_rfl)) (by kernel_rfl) (by kernel_rfl) (fun _ nV w h => placeL_calls  0 2 w  ) ?_
  refine WPO_end (by kernel_rfl) ⟨rfl, (hfz.fnds [13, 12, 11, 10, 9, 8, 7, 6, 5, 4, 3, 2, 0, 1] (by kernel_rfl) ⟨by kernel_rfl, by kernel_rfl, by kernel_rfl, by kernel_rfl, by kernel_rfl, by kernel_rfl, by kernel_rfl, by kernel_rfl, by kernel_rfl, by kernel_rfl, by kernel_rfl, by kernel_rfl, by kernel_rfl, by kernel_rfl, trivial⟩ (by kernel_rfl)), ?_⟩
  refine H_step 35 (by kernel_rfl) (by kernel_rfl) (fun hfz cx' hx1 hx2 => ?_)
  refine LITG tt_ok [(77, false)] (true && ((((((((((listA ownL bothL).2 != 0) || ((levelA strictL ([(placeL 0 0)])).2 != 0)) || ((tiltsA ownL ([(placeL 0 0), (placeL 1 0)])).2 != 0)) || ((stowA strictL ([0, 1])).2 != 0)) || ((mostA ownL).2 != 0)) || (!((listA ownL bothL).1.lo == (rangeF (-1) 2).lo && (listA ownL bothL).1.hi == (rangeF (-1) 2).hi))) || ((levelA strictL ([(placeL 0 0)])).1 != 1)) || ((tiltsA ownL ([(placeL 0 0), (placeL 1 0)])).1 != 1)) == false)) 65 2 2 [.int .i64 (placeL 1 0).load, .int .i64 (placeL 1 0).lane, .int .i64 (placeL 0 2).load, .int .i64 (placeL 0 2).lane] [(placeL 1 0), (placeL 0 2)] encPlace zPlace (by kernel_rfl) (by kernel_rfl) rfl (fun _ => rfl) (fun n => rfl) (by kernel_rfl) ?_
  refine WPO_end (by kernel_rfl) ⟨rfl, (hfz.fnds [13, 12, 11, 10, 9, 8, 7, 6, 5, 4, 3, 2, 0, 1] (by kernel_rfl) ⟨by kernel_rfl, by kernel_rfl, by kernel_rfl, by kernel_rfl, by kernel_rfl, by kernel_rfl, by kernel_rfl, by kernel_rfl, by kernel_rfl, by kernel_rfl, by kernel_rfl, by kernel_rfl, by kernel_rfl, by kernel_rfl, trivial⟩ (by kernel_rfl)), ?_⟩
  refine H_step 36 (by kernel_rfl) (by kernel_rfl) (fun hfz cx' hx1 hx2 => ?_)
  refine CALL 70 [.s (.ref 11), .s (.ref 14)] (.s (.bool (sameL (stowA strictL ([0, 1])).1 (bif (true && ((((((((((listA ownL bothL).2 != 0) || ((levelA strictL ([(placeL 0 0)])).2 != 0)) || ((tiltsA ownL ([(placeL 0 0), (placeL 1 0)])).2 != 0)) || ((stowA strictL ([0, 1])).2 != 0)) || ((mostA ownL).2 != 0)) || (!((listA ownL bothL).1.lo == (rangeF (-1) 2).lo && (listA ownL bothL).1.hi == (rangeF (-1) 2).hi))) || ((levelA strictL ([(placeL 0 0)])).1 != 1)) || ((tiltsA ownL ([(placeL 0 0), (placeL 1 0)])).1 != 1)) == false)) then [(placeL 1 0), (placeL 0 2)] else [])))) [(((((((((listA ownL bothL).2 != 0) || ((levelA strictL ([(placeL 0 0)])).2 != 0)) || ((tiltsA ownL ([(placeL 0 0), (placeL 1 0)])).2 != 0)) || ((stowA strictL ([0, 1])).2 != 0)) || ((mostA ownL).2 != 0)) || (!((listA ownL bothL).1.lo == (rangeF (-1) 2).lo && (listA ownL bothL).1.hi == (rangeF (-1) 2).hi))) || ((levelA strictL ([(placeL 0 0)])).1 != 1)) || ((tiltsA ownL ([(placeL 0 0), (placeL 1 0)])).1 != 1), false)] (by kernel_rfl) (goes_of (by kernel_rfl)) (by kernel_rfl) (by kernel_rfl) (fun _ nV w h => sameL_calls (nV 11) (nV 14) (stowA strictL ([0, 1])).1 (bif (true && ((((((((((listA ownL bothL).2 != 0) || ((levelA strictL ([(placeL 0 0)])).2 != 0)) || ((tiltsA ownL ([(placeL 0 0), (placeL 1 0)])).2 != 0)) || ((stowA strictL ([0, 1])).2 != 0)) || ((mostA ownL).2 != 0)) || (!((listA ownL bothL).1.lo == (rangeF (-1) 2).lo && (listA ownL bothL).1.hi == (rangeF (-1) 2).hi))) || ((levelA strictL ([(placeL 0 0)])).1 != 1)) || ((tiltsA ownL ([(placeL 0 0), (placeL 1 0)])).1 != 1)) == false)) then [(placeL 1 0), (placeL 0 2)] else []) w (h.reads (id := 11) (kd := .ro) (e := 65) (by kernel_rfl)) (h.reads (id := 14) (kd := .own) (e := 65) (by kernel_rfl)) ) ?_
  refine WPO_end (by kernel_rfl) ⟨rfl, (hfz.fnds [13, 12, 11, 10, 9, 8, 7, 6, 5, 4, 3, 2, 0, 1] (by kernel_rfl) ⟨by kernel_rfl, by kernel_rfl, by kernel_rfl, by kernel_rfl, by kernel_rfl, by kernel_rfl, by kernel_rfl, by kernel_rfl, by kernel_rfl, by kernel_rfl, by kernel_rfl, by kernel_rfl, by kernel_rfl, by kernel_rfl, trivial⟩ (by kernel_rfl)), ?_⟩
  refine H_run tt_ok [37, 38, 39, 40] (f' := 4) (by kernel_rfl) (by kernel_rfl) (by kernel_rfl) ?_
  refine H_step 41 (by kernel_rfl) (by kernel_rfl) (fun hfz cx' hx1 hx2 => ?_)
  refine LITG tt_ok [(85, false)] (true && (((((((((((listA ownL bothL).2 != 0) || ((levelA strictL ([(placeL 0 0)])).2 != 0)) || ((tiltsA ownL ([(placeL 0 0), (placeL 1 0)])).2 != 0)) || ((stowA strictL ([0, 1])).2 != 0)) || ((mostA ownL).2 != 0)) || (!((listA ownL bothL).1.lo == (rangeF (-1) 2).lo && (listA ownL bothL).1.hi == (rangeF (-1) 2).hi))) || ((levelA strictL ([(placeL 0 0)])).1 != 1)) || ((tiltsA ownL ([(placeL 0 0), (placeL 1 0)])).1 != 1)) || (!(sameL (stowA strictL ([0, 1])).1 (bif (true && ((((((((((listA ownL bothL).2 != 0) || ((levelA strictL ([(placeL 0 0)])).2 != 0)) || ((tiltsA ownL ([(placeL 0 0), (placeL 1 0)])).2 != 0)) || ((stowA strictL ([0, 1])).2 != 0)) || ((mostA ownL).2 != 0)) || (!((listA ownL bothL).1.lo == (rangeF (-1) 2).lo && (listA ownL bothL).1.hi == (rangeF (-1) 2).hi))) || ((levelA strictL ([(placeL 0 0)])).1 != 1)) || ((tiltsA ownL ([(placeL 0 0), (placeL 1 0)])).1 != 1)) == false)) then [(placeL 1 0), (placeL 0 2)] else [])))) == false)) 3 3 1 [.int .i64 0, .int .i64 1, .int .i64 2] [0, 1, 2] encI 0 (by kernel_rfl) (by kernel_rfl) rfl (fun _ => rfl) (fun n => rfl) (by kernel_rfl) ?_
  refine WPO_end (by kernel_rfl) ⟨rfl, (hfz.fnds [13, 12, 11, 10, 9, 8, 7, 6, 5, 4, 3, 2, 0, 1] (by kernel_rfl) ⟨by kernel_rfl, by kernel_rfl, by kernel_rfl, by kernel_rfl, by kernel_rfl, by kernel_rfl, by kernel_rfl, by kernel_rfl, by kernel_rfl, by kernel_rfl, by kernel_rfl, by kernel_rfl, by kernel_rfl, by kernel_rfl, trivial⟩ (by kernel_rfl)), ?_⟩
  refine H_step 42 (by kernel_rfl) (by kernel_rfl) (fun hfz cx' hx1 hx2 => ?_)
  refine CALL 24 [.s (.ref 13), .s (.ref 15)] (.s (.bool (alikeF (mostA ownL).1 (bif (true && (((((((((((listA ownL bothL).2 != 0) || ((levelA strictL ([(placeL 0 0)])).2 != 0)) || ((tiltsA ownL ([(placeL 0 0), (placeL 1 0)])).2 != 0)) || ((stowA strictL ([0, 1])).2 != 0)) || ((mostA ownL).2 != 0)) || (!((listA ownL bothL).1.lo == (rangeF (-1) 2).lo && (listA ownL bothL).1.hi == (rangeF (-1) 2).hi))) || ((levelA strictL ([(placeL 0 0)])).1 != 1)) || ((tiltsA ownL ([(placeL 0 0), (placeL 1 0)])).1 != 1)) || (!(sameL (stowA strictL ([0, 1])).1 (bif (true && ((((((((((listA ownL bothL).2 != 0) || ((levelA strictL ([(placeL 0 0)])).2 != 0)) || ((tiltsA ownL ([(placeL 0 0), (placeL 1 0)])).2 != 0)) || ((stowA strictL ([0, 1])).2 != 0)) || ((mostA ownL).2 != 0)) || (!((listA ownL bothL).1.lo == (rangeF (-1) 2).lo && (listA ownL bothL).1.hi == (rangeF (-1) 2).hi))) || ((levelA strictL ([(placeL 0 0)])).1 != 1)) || ((tiltsA ownL ([(placeL 0 0), (placeL 1 0)])).1 != 1)) == false)) then [(placeL 1 0), (placeL 0 2)] else [])))) == false)) then [0, 1, 2] else [])))) [((((((((((listA ownL bothL).2 != 0) || ((levelA strictL ([(placeL 0 0)])).2 != 0)) || ((tiltsA ownL ([(placeL 0 0), (placeL 1 0)])).2 != 0)) || ((stowA strictL ([0, 1])).2 != 0)) || ((mostA ownL).2 != 0)) || (!((listA ownL bothL).1.lo == (rangeF (-1) 2).lo && (listA ownL bothL).1.hi == (rangeF (-1) 2).hi))) || ((levelA strictL ([(placeL 0 0)])).1 != 1)) || ((tiltsA ownL ([(placeL 0 0), (placeL 1 0)])).1 != 1)) || (!(sameL (stowA strictL ([0, 1])).1 (bif (true && ((((((((((listA ownL bothL).2 != 0) || ((levelA strictL ([(placeL 0 0)])).2 != 0)) || ((tiltsA ownL ([(placeL 0 0), (placeL 1 0)])).2 != 0)) || ((stowA strictL ([0, 1])).2 != 0)) || ((mostA ownL).2 != 0)) || (!((listA ownL bothL).1.lo == (rangeF (-1) 2).lo && (listA ownL bothL).1.hi == (rangeF (-1) 2).hi))) || ((levelA strictL ([(placeL 0 0)])).1 != 1)) || ((tiltsA ownL ([(placeL 0 0), (placeL 1 0)])).1 != 1)) == false)) then [(placeL 1 0), (placeL 0 2)] else []))), false)] (by kernel_rfl) (goes_of (by kernel_rfl)) (by kernel_rfl) (by kernel_rfl) (fun _ nV w h => alikeF_calls (nV 13) (nV 15) (mostA ownL).1 (bif (true && (((((((((((listA ownL bothL).2 != 0) || ((levelA strictL ([(placeL 0 0)])).2 != 0)) || ((tiltsA ownL ([(placeL 0 0), (placeL 1 0)])).2 != 0)) || ((stowA strictL ([0, 1])).2 != 0)) || ((mostA ownL).2 != 0)) || (!((listA ownL bothL).1.lo == (rangeF (-1) 2).lo && (listA ownL bothL).1.hi == (rangeF (-1) 2).hi))) || ((levelA strictL ([(placeL 0 0)])).1 != 1)) || ((tiltsA ownL ([(placeL 0 0), (placeL 1 0)])).1 != 1)) || (!(sameL (stowA strictL ([0, 1])).1 (bif (true && ((((((((((listA ownL bothL).2 != 0) || ((levelA strictL ([(placeL 0 0)])).2 != 0)) || ((tiltsA ownL ([(placeL 0 0), (placeL 1 0)])).2 != 0)) || ((stowA strictL ([0, 1])).2 != 0)) || ((mostA ownL).2 != 0)) || (!((listA ownL bothL).1.lo == (rangeF (-1) 2).lo && (listA ownL bothL).1.hi == (rangeF (-1) 2).hi))) || ((levelA strictL ([(placeL 0 0)])).1 != 1)) || ((tiltsA ownL ([(placeL 0 0), (placeL 1 0)])).1 != 1)) == false)) then [(placeL 1 0), (placeL 0 2)] else [])))) == false)) then [0, 1, 2] else []) w (h.reads (id := 13) (kd := .ro) (e := 3) (by kernel_rfl)) (h.reads (id := 15) (kd := .own) (e := 3) (by kernel_rfl)) ) ?_
  refine WPO_end (by kernel_rfl) ⟨rfl, (hfz.fnds [13, 12, 11, 10, 9, 8, 7, 6, 5, 4, 3, 2, 0, 1] (by kernel_rfl) ⟨by kernel_rfl, by kernel_rfl, by kernel_rfl, by kernel_rfl, by kernel_rfl, by kernel_rfl, by kernel_rfl, by kernel_rfl, by kernel_rfl, by kernel_rfl, by kernel_rfl, by kernel_rfl, by kernel_rfl, by kernel_rfl, trivial⟩ (by kernel_rfl)), ?_⟩
  refine H_run tt_ok [43, 44] (f' := 0) (by kernel_rfl) (by kernel_rfl) (by kernel_rfl) ?_
  refine H_done (by kernel_rfl) ?_
  refine WP_cond (((((((((((listA ownL bothL).2 != 0) || ((levelA strictL ([(placeL 0 0)])).2 != 0)) || ((tiltsA ownL ([(placeL 0 0), (placeL 1 0)])).2 != 0)) || ((stowA strictL ([0, 1])).2 != 0)) || ((mostA ownL).2 != 0)) || (!((listA ownL bothL).1.lo == (rangeF (-1) 2).lo && (listA ownL bothL).1.hi == (rangeF (-1) 2).hi))) || ((levelA strictL ([(placeL 0 0)])).1 != 1)) || ((tiltsA ownL ([(placeL 0 0), (placeL 1 0)])).1 != 1)) || (!(sameL (stowA strictL ([0, 1])).1 (bif (true && ((((((((((listA ownL bothL).2 != 0) || ((levelA strictL ([(placeL 0 0)])).2 != 0)) || ((tiltsA ownL ([(placeL 0 0), (placeL 1 0)])).2 != 0)) || ((stowA strictL ([0, 1])).2 != 0)) || ((mostA ownL).2 != 0)) || (!((listA ownL bothL).1.lo == (rangeF (-1) 2).lo && (listA ownL bothL).1.hi == (rangeF (-1) 2).hi))) || ((levelA strictL ([(placeL 0 0)])).1 != 1)) || ((tiltsA ownL ([(placeL 0 0), (placeL 1 0)])).1 != 1)) == false)) then [(placeL 1 0), (placeL 0 2)] else [])))) || (!(alikeF (mostA ownL).1 (bif (true && (((((((((((listA ownL bothL).2 != 0) || ((levelA strictL ([(placeL 0 0)])).2 != 0)) || ((tiltsA ownL ([(placeL 0 0), (placeL 1 0)])).2 != 0)) || ((stowA strictL ([0, 1])).2 != 0)) || ((mostA ownL).2 != 0)) || (!((listA ownL bothL).1.lo == (rangeF (-1) 2).lo && (listA ownL bothL).1.hi == (rangeF (-1) 2).hi))) || ((levelA strictL ([(placeL 0 0)])).1 != 1)) || ((tiltsA ownL ([(placeL 0 0), (placeL 1 0)])).1 != 1)) || (!(sameL (stowA strictL ([0, 1])).1 (bif (true && ((((((((((listA ownL bothL).2 != 0) || ((levelA strictL ([(placeL 0 0)])).2 != 0)) || ((tiltsA ownL ([(placeL 0 0), (placeL 1 0)])).2 != 0)) || ((stowA strictL ([0, 1])).2 != 0)) || ((mostA ownL).2 != 0)) || (!((listA ownL bothL).1.lo == (rangeF (-1) 2).lo && (listA ownL bothL).1.hi == (rangeF (-1) 2).hi))) || ((levelA strictL ([(placeL 0 0)])).1 != 1)) || ((tiltsA ownL ([(placeL 0 0), (placeL 1 0)])).1 != 1)) == false)) then [(placeL 1 0), (placeL 0 2)] else [])))) == false)) then [0, 1, 2] else [])))) (by kernel_rfl) (fun hc2 => ?_) (fun hc2 => ?_)
  · have hc2' := hc2; try simp only [Bool.and_eq_true, Bool.or_eq_true, Bool.and_eq_false_iff, Bool.or_eq_false_iff, Bool.not_eq_true', Bool.not_eq_false', decide_eq_true_eq, decide_eq_false_iff_not, beq_iff_eq, beq_eq_false_iff_ne, bne_iff_ne, bne_eq_false_iff_eq, ne_eq] at hc2'
    refine WP_seq (WP_region (WPO_all tt_ok (by kernel_rfl) ?_))
    refine WP_ret ?_
    exact ⟨.s (.bool false), by kernel_rfl, fun nV w' h => ⟨by rw [show stowedL = false from by unfold stowedL; simp only [hc2, cond_true, cond_false]]; rfl, h.bel⟩⟩
  have hc2' := hc2; try simp only [Bool.and_eq_true, Bool.or_eq_true, Bool.and_eq_false_iff, Bool.or_eq_false_iff, Bool.not_eq_true', Bool.not_eq_false', decide_eq_true_eq, decide_eq_false_iff_not, beq_iff_eq, beq_eq_false_iff_ne, bne_iff_ne, bne_eq_false_iff_eq, ne_eq] at hc2'
  refine WP_skip ?_
  refine WP_seq (WP_region (CALLO 71 [] (.g [.ref 16, .int .i64 lightL.rule, .int .i64 lightL.most]) 61 3 lightL.loads encLoad zLoad 16 (by kernel_rfl) (by kernel_rfl) (goes_of (by kernel_rfl)) (by kernel_rfl) (by kernel_rfl) (fun _ => rfl) ((fun nV w h => lightL_calls   w  )) ?_))
  refine CALLR 46 [.g [.ref 16, .int .i64 lightL.rule, .int .i64 lightL.most]] (.t [(false, [.ref 17]), (false, [.int .i64 (fewestA lightL).2])]) 3 1 (fewestA lightL).1 encI 0 17 (by kernel_rfl) (by kernel_rfl) (goes_of (by kernel_rfl)) (by kernel_rfl) (by kernel_rfl) (by decide) (fun _ => rfl) (fun nV w h => (fewestA_calls (nV 16) lightL w (h.reads (id := 16) (kd := .own) (e := 61) (by kernel_rfl)) (h.ents (0, .pf NobodyAt (· = 1)) (fnd_mem (by kernel_rfl))).1 (h.ents (1, .pf LanesAt (· = 0)) (fnd_mem (by kernel_rfl))).1 ).mono fun e w' h1 => weak_fresh h1) ?_
  refine WPO_all tt_ok (by kernel_rfl) ?_
  refine WP_seq (WP_region (CALLO 69 [] (.g [.ref 18, .int .i64 wideL.rule, .int .i64 wideL.most]) 61 3 wideL.loads encLoad zLoad 18 (by kernel_rfl) (by kernel_rfl) (goes_of (by kernel_rfl)) (by kernel_rfl) (by kernel_rfl) (fun _ => rfl) ((fun nV w h => wideL_calls   w  )) ?_))
  refine CALLR 47 [.g [.ref 18, .int .i64 wideL.rule, .int .i64 wideL.most]] (.t [(false, [.ref 19]), (false, [.int .i64 (neverA wideL).2])]) 3 1 (neverA wideL).1 encI 0 19 (by kernel_rfl) (by kernel_rfl) (goes_of (by kernel_rfl)) (by kernel_rfl) (by kernel_rfl) (by decide) (fun _ => rfl) (fun nV w h => (neverA_calls (nV 18) wideL w (h.reads (id := 18) (kd := .own) (e := 61) (by kernel_rfl)) (h.ents (0, .pf NobodyAt (· = 1)) (fnd_mem (by kernel_rfl))).1 (h.ents (1, .pf LanesAt (· = 0)) (fnd_mem (by kernel_rfl))).1 ).mono fun e w' h1 => weak_fresh h1) ?_
  refine WPO_all tt_ok (by kernel_rfl) ?_
  refine WP_seq (WP_region (CALLO 63 [] (.g [.ref 20, .int .i64 ownL.rule, .int .i64 ownL.most]) 61 3 ownL.loads encLoad zLoad 20 (by kernel_rfl) (by kernel_rfl) (goes_of (by kernel_rfl)) (by kernel_rfl) (by kernel_rfl) (fun _ => rfl) ((fun nV w h => ownL_calls   w  )) ?_))
  refine CALL 48 [.g [.ref 20, .int .i64 ownL.rule, .int .i64 ownL.most]] (.t [(false, [.int .i64 (weighA ownL).1]), (false, [.int .i64 (weighA ownL).2])]) [] (by kernel_rfl) (goes_of (by kernel_rfl)) (by kernel_rfl) (by kernel_rfl) (fun _ nV w h => weighA_calls (nV 20) ownL w (h.reads (id := 20) (kd := .own) (e := 61) (by kernel_rfl)) (h.ents (0, .pf NobodyAt (· = 1)) (fnd_mem (by kernel_rfl))).1 (h.ents (1, .pf LanesAt (· = 0)) (fnd_mem (by kernel_rfl))).1 ) ?_
  refine WPO_all tt_ok (by kernel_rfl) ?_
  refine WP_seq (WP_region (WPO_run tt_ok 12 (by kernel_rfl) ?_))
  refine LITG tt_ok [(116, true)] (true && (((((fewestA lightL).2 == 0) && ((neverA wideL).2 == 0)) && ((weighA ownL).2 == 0)) == true)) 3 4 1 [.int .i64 0, .int .i64 0, .int .i64 1, .int .i64 1] [0, 0, 1, 1] encI 0 (by kernel_rfl) (by kernel_rfl) rfl (fun _ => rfl) (fun n => rfl) (by kernel_rfl) ?_
  refine CALL 24 [.s (.ref 17), .s (.ref 21)] (.s (.bool (alikeF (fewestA lightL).1 (bif (true && (((((fewestA lightL).2 == 0) && ((neverA wideL).2 == 0)) && ((weighA ownL).2 == 0)) == true)) then [0, 0, 1, 1] else [])))) [((((fewestA lightL).2 == 0) && ((neverA wideL).2 == 0)) && ((weighA ownL).2 == 0), true)] (by kernel_rfl) (goes_of (by kernel_rfl)) (by kernel_rfl) (by kernel_rfl) (fun _ nV w h => alikeF_calls (nV 17) (nV 21) (fewestA lightL).1 (bif (true && (((((fewestA lightL).2 == 0) && ((neverA wideL).2 == 0)) && ((weighA ownL).2 == 0)) == true)) then [0, 0, 1, 1] else []) w (h.reads (id := 17) (kd := .ro) (e := 3) (by kernel_rfl)) (h.reads (id := 21) (kd := .own) (e := 3) (by kernel_rfl)) ) ?_
  refine WPO_run tt_ok 3 (by kernel_rfl) ?_
  refine LITG tt_ok [(121, true)] (true && ((((((fewestA lightL).2 == 0) && ((neverA wideL).2 == 0)) && ((weighA ownL).2 == 0)) && (alikeF (fewestA lightL).1 (bif (true && (((((fewestA lightL).2 == 0) && ((neverA wideL).2 == 0)) && ((weighA ownL).2 == 0)) == true)) then [0, 0, 1, 1] else []))) == true)) 3 1 1 [.int .i64 4] [4] encI 0 (by kernel_rfl) (by kernel_rfl) rfl (fun _ => rfl) (fun n => rfl) (by kernel_rfl) ?_
  refine CALL 24 [.s (.ref 19), .s (.ref 22)] (.s (.bool (alikeF (neverA wideL).1 (bif (true && ((((((fewestA lightL).2 == 0) && ((neverA wideL).2 == 0)) && ((weighA ownL).2 == 0)) && (alikeF (fewestA lightL).1 (bif (true && (((((fewestA lightL).2 == 0) && ((neverA wideL).2 == 0)) && ((weighA ownL).2 == 0)) == true)) then [0, 0, 1, 1] else []))) == true)) then [4] else [])))) [(((((fewestA lightL).2 == 0) && ((neverA wideL).2 == 0)) && ((weighA ownL).2 == 0)) && (alikeF (fewestA lightL).1 (bif (true && (((((fewestA lightL).2 == 0) && ((neverA wideL).2 == 0)) && ((weighA ownL).2 == 0)) == true)) then [0, 0, 1, 1] else [])), true)] (by kernel_rfl) (goes_of (by kernel_rfl)) (by kernel_rfl) (by kernel_rfl) (fun _ nV w h => alikeF_calls (nV 19) (nV 22) (neverA wideL).1 (bif (true && ((((((fewestA lightL).2 == 0) && ((neverA wideL).2 == 0)) && ((weighA ownL).2 == 0)) && (alikeF (fewestA lightL).1 (bif (true && (((((fewestA lightL).2 == 0) && ((neverA wideL).2 == 0)) && ((weighA ownL).2 == 0)) == true)) then [0, 0, 1, 1] else []))) == true)) then [4] else []) w (h.reads (id := 19) (kd := .ro) (e := 3) (by kernel_rfl)) (h.reads (id := 22) (kd := .own) (e := 3) (by kernel_rfl)) ) ?_
  refine WPO_all tt_ok (by kernel_rfl) ?_
  refine WP_ret ?_
  exact ⟨.s (.bool (((((((fewestA lightL).2 == 0) && ((neverA wideL).2 == 0)) && ((weighA ownL).2 == 0)) && (alikeF (fewestA lightL).1 (bif (true && (((((fewestA lightL).2 == 0) && ((neverA wideL).2 == 0)) && ((weighA ownL).2 == 0)) == true)) then [0, 0, 1, 1] else []))) && (alikeF (neverA wideL).1 (bif (true && ((((((fewestA lightL).2 == 0) && ((neverA wideL).2 == 0)) && ((weighA ownL).2 == 0)) && (alikeF (fewestA lightL).1 (bif (true && (((((fewestA lightL).2 == 0) && ((neverA wideL).2 == 0)) && ((weighA ownL).2 == 0)) == true)) then [0, 0, 1, 1] else []))) == true)) then [4] else []))) && ((weighA ownL).1 == 0))), by kernel_rfl, fun nV w' h => ⟨by rw [show stowedL = (((((((fewestA lightL).2 == 0) && ((neverA wideL).2 == 0)) && ((weighA ownL).2 == 0)) && (alikeF (fewestA lightL).1 (bif (true && (((((fewestA lightL).2 == 0) && ((neverA wideL).2 == 0)) && ((weighA ownL).2 == 0)) == true)) then [0, 0, 1, 1] else []))) && (alikeF (neverA wideL).1 (bif (true && ((((((fewestA lightL).2 == 0) && ((neverA wideL).2 == 0)) && ((weighA ownL).2 == 0)) && (alikeF (fewestA lightL).1 (bif (true && (((((fewestA lightL).2 == 0) && ((neverA wideL).2 == 0)) && ((weighA ownL).2 == 0)) == true)) then [0, 0, 1, 1] else []))) == true)) then [4] else []))) && ((weighA ownL).1 == 0)) from by unfold stowedL; simp only [hc2, cond_true, cond_false]]; rfl, h.bel⟩⟩
theorem stowedL_true : stowedL = true := by kernel_rfl
end Go.Proofs.YthfnedbpmdkdjaaDoor.D
namespace Go.Proofs.YthfnedbpmdkdjaaDoor.D
open Go Go.RowKit Go.Proofs.YthfnedbpmdkdjaaDoor.Eng Go.Proofs.YthfnedbpmdkdjaaDoor.Cm
set_option linter.unusedVariables false
set_option linter.unusedSimpArgs false
set_option linter.unusedSectionVars false
def soundL_c1 (b : DBook) (k1 : Nat) : Bool → Bool := fun v1_1 => v1_1 && (decide ((k1 : Int) < (b.loads.length : Int)))
def soundL_b1 (b : DBook) (k1 : Nat) : Bool → Bd Bool Bool := fun v1_1 => .go ((validF (b.loads.getD k1 zLoad).w 1 60) && (insideF (b.loads.getD k1 zLoad).lanes 1 7))
def soundL (b : DBook) : Bool :=
  (match loopR (soundL_c1 b) (soundL_b1 b) b.loads.length 0 (((((checkD b) == 0) && (insideF (b.loads.length : Int) 1 5)) && (insideF b.rule 0 30)) && (insideF b.most 1 200)) with | .brk u1_0 => u1_0 | .ret r => r)
theorem soundL_calls (g0 : Value) (b : DBook) (w : World) (r0 : Reads w g0 3 b.loads encLoad zLoad)  : Calls Tryd.prog 26 #[.agg #[g0, iv b.rule, iv b.most]] w fun e w' => e = .returned (.bool (soundL b)) ∧ Below w.heap.size w w' := by
  refine calls_of_WP (cx := cx0 w (vn [g0]) 1) (n := vn [g0]) (vs := [.g [.ref 0, .int .i64 b.rule, .int .i64 b.most]]) (hp := [(0, .sl .ro 61 3 b.loads encLoad zLoad)]) (nx := 1) tt_ok Tryd.func26 rfl rfl rfl (by kernel_rfl) (HSat_args (vn_one (by simp [r0.one])) (Nat.le_refl _) ⟨⟨⟨fun _ => rfl, by decide, r0⟩, (Nat.le_of_ble_eq_true rfl)⟩, trivial⟩) (vsOk (by kernel_rfl)) ?_
  have hl0 := Reads.len r0
  refine WP_seq (WP_region (WPO_all tt_ok (by kernel_rfl) ?_))
  refine WP_seq (WP_region (WPO_run tt_ok 1 (by kernel_rfl) ?_))
  refine CALL 66 [.g [.ref 0, .int .i64 b.rule, .int .i64 b.most]] (.s (.int .i64 (checkD b))) [] (by kernel_rfl) (goes_of (by kernel_rfl)) (by kernel_rfl) (by kernel_rfl) (fun hG nV w h => checkD_calls (nV 0) b w (h.reads (id := 0) (kd := .ro) (e := 61) (by kernel_rfl)) ) ?_
  refine WPO_run tt_ok 5 (by kernel_rfl) ?_
  refine CALL 34 [.s (.int .i64 (b.loads.length : Int)), .s (.int .i64 1), .s (.int .i64 5)] (.s (.bool (insideF (b.loads.length : Int) 1 5))) [((checkD b) == 0, true)] (by kernel_rfl) (goes_of (by kernel_rfl)) (by kernel_rfl) (by kernel_rfl) (fun hG nV w h => insideF_calls  (b.loads.length : Int) 1 5 w  ) ?_
  refine WPO_run tt_ok 4 (by kernel_rfl) ?_
  refine CALL 34 [.s (.int .i64 b.rule), .s (.int .i64 0), .s (.int .i64 30)] (.s (.bool (insideF b.rule 0 30))) [(((checkD b) == 0) && (insideF (b.loads.length : Int) 1 5), true)] (by kernel_rfl) (goes_of (by kernel_rfl)) (by kernel_rfl) (by kernel_rfl) (fun hG nV w h => insideF_calls  b.rule 0 30 w  ) ?_
  refine WPO_run tt_ok 4 (by kernel_rfl) ?_
  refine CALL 34 [.s (.int .i64 b.most), .s (.int .i64 1), .s (.int .i64 200)] (.s (.bool (insideF b.most 1 200))) [((((checkD b) == 0) && (insideF (b.loads.length : Int) 1 5)) && (insideF b.rule 0 30), true)] (by kernel_rfl) (goes_of (by kernel_rfl)) (by kernel_rfl) (by kernel_rfl) (fun hG nV w h => insideF_calls  b.most 1 200 w  ) ?_
  refine WPO_all tt_ok (by kernel_rfl) ?_
  refine WP_seq (WP_seq (WP_region (WPO_all tt_ok (by kernel_rfl) ?_)))
  refine WP_loopA (ρ := Bool) (soundL_c1 b) (soundL_b1 b) b.loads.length (((((checkD b) == 0) && (insideF (b.loads.length : Int) 1 5)) && (insideF b.rule 0 30)) && (insideF b.most 1 200)) (fun k : Nat => (k : Int)) (fun (ci : Int) (zz : Bool) => ⟨51, [(4, [], .s (.int .i64 ci)), (3, [], .s (.bool zz)), (1, [], .s (.p 1 0))], [(1, .box 24 [.ref 0, .int .i64 b.rule, .int .i64 b.most]), (0, .sl .ro 61 3 b.loads encLoad zLoad)], 2, []⟩) (fun zz : Bool => ⟨51, [(3, [], .s (.bool zz))], [(1, .box 24 [.ref 0, .int .i64 b.rule, .int .i64 b.most]), (0, .sl .ro 61 3 b.loads encLoad zLoad)], 2, []⟩) (fun k zz => True) trivial ⟨0, rfl, Le_sel (ts := [4, 3, 1]) (ids := [1, 0]) (nx := 2) (by kernel_rfl)⟩ ?_ ?_
  · intro k1 v1_1 hn1 hp1 hi1 Q1 hq1 ho1
    refine WP_seq (WP_seq (WP_region (WPO_all tt_ok (by kernel_rfl) ?_)))
    refine WP_cond (v1_1 && (decide ((k1 : Int) < (b.loads.length : Int)))) (by kernel_rfl) (fun hc1 => ?_) (fun hc1 => ?_)
    rotate_left
    · refine WP_exit ?_
      show Q1 (.exit 0) _
      exact LA_exit hq1 v1_1 (loopR_end hi1 hc1) ⟨k1, hn1, hp1⟩ (Le_sel (ts := [3]) (ids := [1, 0]) (nx := 2) (by kernel_rfl))
    have hc1' := hc1; try simp only [Bool.and_eq_true, Bool.or_eq_true, Bool.and_eq_false_iff, Bool.or_eq_false_iff, Bool.not_eq_true', Bool.not_eq_false', decide_eq_true_eq, decide_eq_false_iff_not, beq_iff_eq, beq_eq_false_iff_ne, bne_iff_ne, bne_eq_false_iff_eq, ne_eq] at hc1'
    have hk1 : k1 < b.loads.length := by omega
    refine WP_skip ?_
    refine WP_seq (WP_block ?_)
    refine WP_region (WPO_run tt_ok 3 (by kernel_rfl) ?_)
    refine IX tt_ok (k1 : Int) b.loads.length [] (by kernel_rfl) (fun hG => ⟨by omega, by omega⟩) ?_
    refine WPO_run tt_ok 2 (by kernel_rfl) ?_
    refine CALL 83 [.g [.int .i64 (b.loads.getD k1 zLoad).w.lo, .int .i64 (b.loads.getD k1 zLoad).w.hi], .s (.int .i64 1), .s (.int .i64 60)] (.s (.bool (validF (b.loads.getD k1 zLoad).w 1 60))) [] (by kernel_rfl) (goes_of (by kernel_rfl)) (by kernel_rfl) (by kernel_rfl) (fun hG nV w h => validF_calls  (b.loads.getD k1 zLoad).w 1 60 w  ) ?_
    refine WPO_run tt_ok 4 (by kernel_rfl) ?_
    refine IX tt_ok (k1 : Int) b.loads.length [((validF (b.loads.getD k1 zLoad).w 1 60), true)] (by kernel_rfl) (fun hG => (by (try simp only [AllEq, and_true, Bool.and_eq_true, Bool.or_eq_true, Bool.not_eq_true', decide_eq_true_eq, decide_eq_false_iff_not] at hG); constructor <;> omega)) ?_
    refine WPO_run tt_ok 2 (by kernel_rfl) ?_
    refine CALL 34 [.s (.int .i64 (b.loads.getD k1 zLoad).lanes), .s (.int .i64 1), .s (.int .i64 7)] (.s (.bool (insideF (b.loads.getD k1 zLoad).lanes 1 7))) [((validF (b.loads.getD k1 zLoad).w 1 60), true)] (by kernel_rfl) (goes_of (by kernel_rfl)) (by kernel_rfl) (by kernel_rfl) (fun hG nV w h => insideF_calls  (b.loads.getD k1 zLoad).lanes 1 7 w  ) ?_
    refine WPO_all tt_ok (by kernel_rfl) ?_
    refine WP_region (WPO_all tt_ok (by kernel_rfl) ?_)
    show Q1 .normal _
    exact LA_go hq1 (ci := IntKind.i64.wrap ((k1 : Int) + 1)) ((validF (b.loads.getD k1 zLoad).w 1 60) && (insideF (b.loads.getD k1 zLoad).lanes 1 7)) hk1 (by show _ = ((k1 + 1 : Nat) : Int); rw [wrapI (by omega) (by omega)]; omega) (loopR_go hi1 hk1 hc1 (rfl)) trivial (Le_sel (ts := [4, 3, 1]) (ids := [1, 0]) (nx := 2) (by kernel_rfl))
  intro u1_0 hR1 hP1 s' hl
  refine WP_le hl ?_
  clear hl s'
  refine WP_seq (WP_region (WPO_all tt_ok (by kernel_rfl) ?_))
  refine WP_ret ?_
  exact ⟨.s (.bool u1_0), by kernel_rfl, fun nV w' h => ⟨by rw [show soundL b = u1_0 from by unfold soundL; simp only [hR1, cond_true, cond_false]]; rfl, h.bel⟩⟩
def chosenL (b : DBook) (n : Int) : (List Int) :=
  (membersF (modF n (IntKind.i64.wrap (1 * 2 ^ (min (b.loads.length : Int).toNat IntKind.i64.bits)))) (b.loads.length : Int))
theorem chosenL_calls (g0 : Value) (b : DBook) (n : Int) (w : World) (r0 : Reads w g0 3 b.loads encLoad zLoad) (hb5 : b.loads.length ≤ 5) : Calls Tryd.prog 28 #[.agg #[g0, iv b.rule, iv b.most], iv n] w fun e w' => ∃ v0, e = .returned (v0) ∧ Below w.heap.size w w' ∧ w'.ownsRow w.heap.size 3 1 v0 (chosenL b n).length (flat (chosenL b n) encI) := by
  refine calls_of_WP (cx := cx0 w (vn [g0]) 1) (n := vn [g0]) (vs := [.g [.ref 0, .int .i64 b.rule, .int .i64 b.most], .s (.int .i64 n)]) (hp := [(0, .sl .ro 61 3 b.loads encLoad zLoad)]) (nx := 1) tt_ok Tryd.func28 rfl rfl rfl (by kernel_rfl) (HSat_args (vn_one (by simp [r0.one])) (Nat.le_refl _) ⟨⟨⟨fun _ => rfl, by decide, r0⟩, (Nat.le_of_ble_eq_true rfl)⟩, trivial⟩) (vsOk (by kernel_rfl)) ?_
  have hl0 := Reads.len r0
  refine WP_seq (WP_region (WPO_all tt_ok (by kernel_rfl) ?_))
  refine WP_seq (WP_drawH [] (by kernel_rfl) (by kernel_rfl) ?_)
  refine H_run tt_ok [0, 1, 2, 3] (f' := 7) (by kernel_rfl) (by kernel_rfl) (by kernel_rfl) ?_
  refine H_BIN 4 .shl 3 (.const (.int .i64 1)) (.tmp 8) (.s (.int .i64 1)) (.s (.int .i64 (b.loads.length : Int))) (.s (.int .i64 (IntKind.i64.wrap (1 * 2 ^ (min (b.loads.length : Int).toNat IntKind.i64.bits))))) [] (by kernel_rfl) (by kernel_rfl) (by kernel_rfl) (fun _ _ => BinOk_shl (by omega)) (by kernel_rfl) (by kernel_rfl) ?_
  refine H_run tt_ok [6, 7, 8] (f' := 3) (by kernel_rfl) (by kernel_rfl) (by kernel_rfl) ?_
  refine H_step 5 (by kernel_rfl) (by kernel_rfl) (fun hfz cx' hx1 hx2 => ?_)
  refine CALL 54 [.s (.int .i64 n), .s (.int .i64 (IntKind.i64.wrap (1 * 2 ^ (min (b.loads.length : Int).toNat IntKind.i64.bits))))] (.s (.int .i64 (modF n (IntKind.i64.wrap (1 * 2 ^ (min (b.loads.length : Int).toNat IntKind.i64.bits)))))) [] (by kernel_rfl) (goes_of (by kernel_rfl)) (by kernel_rfl) (by kernel_rfl) (fun hG nV w h => modF_calls  n (IntKind.i64.wrap (1 * 2 ^ (min (b.loads.length : Int).toNat IntKind.i64.bits))) w  ) ?_
  refine WPO_end (by kernel_rfl) ⟨rfl, (hfz.fnds [1, 0] (by kernel_rfl) ⟨by kernel_rfl, by kernel_rfl, trivial⟩ (by kernel_rfl)), ?_⟩
  refine H_step 9 (by kernel_rfl) (by kernel_rfl) (fun hfz cx' hx1 hx2 => ?_)
  refine CALLO 57 [.s (.int .i64 (modF n (IntKind.i64.wrap (1 * 2 ^ (min (b.loads.length : Int).toNat IntKind.i64.bits))))), .s (.int .i64 (b.loads.length : Int))] (.s (.ref 2)) 3 1 (membersF (modF n (IntKind.i64.wrap (1 * 2 ^ (min (b.loads.length : Int).toNat IntKind.i64.bits)))) (b.loads.length : Int)) encI 0 2 (by kernel_rfl) (by kernel_rfl) (goes_of (by kernel_rfl)) (by kernel_rfl) (by kernel_rfl) (fun _ => rfl) ((fun nV w h => membersF_calls  (modF n (IntKind.i64.wrap (1 * 2 ^ (min (b.loads.length : Int).toNat IntKind.i64.bits)))) (b.loads.length : Int) w  (by first | assumption | omega))) ?_
  refine WPO_end (by kernel_rfl) ⟨rfl, (hfz.fnds [1, 0] (by kernel_rfl) ⟨by kernel_rfl, by kernel_rfl, trivial⟩ (by kernel_rfl)), ?_⟩
  refine H_run tt_ok [10] (f' := 0) (by kernel_rfl) (by kernel_rfl) (by kernel_rfl) ?_
  refine H_done (by kernel_rfl) ?_
  refine WP_ret ?_
  exact ⟨.s (.ref 2), by kernel_rfl, fun nV w' h => ⟨nV 2, rfl, h.bel, by rw [show chosenL b n = (membersF (modF n (IntKind.i64.wrap (1 * 2 ^ (min (b.loads.length : Int).toNat IntKind.i64.bits)))) (b.loads.length : Int)) from rfl]; exact own_of (z := 0) h (by kernel_rfl)⟩⟩
def crossingsL_c1 (l : List Int) (k1 : Nat) : Int → Bool := fun v1_1 => decide ((k1 : Int) < (l.length : Int))
def crossingsL_b1 (l : List Int) (k1 : Nat) : Int → Bd Int Int := fun v1_1 => .go (mx v1_1 (IntKind.i64.wrap ((l.getD k1 0) + 1)))
def crossingsL (l : List Int) : Int :=
  (match loopR (crossingsL_c1 l) (crossingsL_b1 l) l.length 0 0 with | .brk u1_0 => u1_0 | .ret r => r)
def crossingL_c1 (l : List Int) (c : Int) (k1 : Nat) : (List Int) → Bool := fun v1_1 => decide ((k1 : Int) < (l.length : Int))
def crossingL_b1 (l : List Int) (c : Int) (k1 : Nat) : (List Int) → Bd (List Int) (List Int) := fun v1_1 => (bif (l.getD k1 0) == c then .go (v1_1 ++ ([(k1 : Int)])) else .go v1_1)
def crossingL (l : List Int) (c : Int) : (List Int) :=
  (match loopR (crossingL_c1 l c) (crossingL_b1 l c) l.length 0 ([] : List Int) with | .brk u1_0 => u1_0 | .ret r => r)
def leanL_c1 (on : List Place) (weights : List Int) (k1 : Nat) : Int → Bool := fun v1_1 => decide ((k1 : Int) < (on.length : Int))
def leanL_b1 (on : List Place) (weights : List Int) (k1 : Nat) : Int → Bd Int Int := fun v1_1 => .go (bif ((on.getD k1 zPlace).lane == 0) then IntKind.i64.wrap (v1_1 + (weights.getD (on.getD k1 zPlace).load.toNat 0)) else bif ((on.getD k1 zPlace).lane == 2) then IntKind.i64.wrap (v1_1 - (weights.getD (on.getD k1 zPlace).load.toNat 0)) else v1_1)
def leanL (on : List Place) (weights : List Int) : Int :=
  (match loopR (leanL_c1 on weights) (leanL_b1 on weights) on.length 0 0 with | .brk u1_0 => u1_0 | .ret r => r)
theorem leanL_calls (g0 g1 : Value) (on : List Place) (weights : List Int) (w : World) (r0 : Reads w g0 2 on encPlace zPlace) (r1 : Reads w g1 1 weights encI 0) (hon : ∀ x ∈ on, 0 ≤ x.load ∧ x.load < weights.length) : Calls Tryd.prog 33 #[g0, g1] w fun e w' => e = .returned (iv (leanL on weights)) ∧ Below w.heap.size w w' := by
  refine calls_of_WP (cx := cx0 w (vn [g0, g1]) 2) (n := vn [g0, g1]) (vs := [.s (.ref 0), .s (.ref 1)]) (hp := [(0, .sl .ro 65 2 on encPlace zPlace), (1, .sl .ro 3 1 weights encI 0)]) (nx := 2) tt_ok Tryd.func33 rfl rfl rfl (by kernel_rfl) (HSat_args (vn_one (by simp [r0.one, r1.one])) (Nat.le_refl _) ⟨⟨⟨fun _ => rfl, by decide, r0⟩, (Nat.le_of_ble_eq_true rfl)⟩, ⟨⟨fun _ => rfl, by decide, r1⟩, (Nat.le_of_ble_eq_true rfl)⟩, trivial⟩) (vsOk (by kernel_rfl)) ?_
  have hl0 := Reads.len r0
  have hl1 := Reads.len r1
  refine WP_seq (WP_region (WPO_all tt_ok (by kernel_rfl) ?_))
  refine WP_seq (WP_region (WPO_all tt_ok (by kernel_rfl) ?_))
  refine WP_seq (WP_seq (WP_region (WPO_all tt_ok (by kernel_rfl) ?_)))
  refine WP_loopA (ρ := Int) (leanL_c1 on weights) (leanL_b1 on weights) on.length 0 (fun k : Nat => (k : Int)) (fun (ci : Int) (zz : Int) => ⟨43, [(6, [], .s (.int .i64 ci)), (5, [], .s (.int .i64 zz)), (0, [], .s (.ref 0)), (1, [], .s (.ref 1))], [(0, .sl .ro 65 2 on encPlace zPlace), (1, .sl .ro 3 1 weights encI 0)], 2, []⟩) (fun zz : Int => ⟨43, [(5, [], .s (.int .i64 zz))], [(0, .sl .ro 65 2 on encPlace zPlace), (1, .sl .ro 3 1 weights encI 0)], 2, []⟩) (fun k zz => True) trivial ⟨0, rfl, Le_sel (ts := [6, 5, 0, 1]) (ids := [0, 1]) (nx := 2) (by kernel_rfl)⟩ ?_ ?_
  · intro k1 v1_1 hn1 hp1 hi1 Q1 hq1 ho1
    refine WP_seq (WP_seq (WP_region (WPO_all tt_ok (by kernel_rfl) ?_)))
    refine WP_cond (decide ((k1 : Int) < (on.length : Int))) (by kernel_rfl) (fun hc1 => ?_) (fun hc1 => ?_)
    rotate_left
    · refine WP_exit ?_
      show Q1 (.exit 0) _
      exact LA_exit hq1 v1_1 (loopR_end hi1 hc1) ⟨k1, hn1, hp1⟩ (Le_sel (ts := [5]) (ids := [0, 1]) (nx := 2) (by kernel_rfl))
    have hc1' := of_decide_eq_true hc1
    have hk1 : k1 < on.length := by omega
    have hox := hon _ (getD_mem (z := zPlace) hk1)
    refine WP_skip ?_
    refine WP_seq (WP_block ?_)
    refine WP_seq (WP_region (WPO_run tt_ok 2 (by kernel_rfl) ?_))
    refine IX tt_ok (k1 : Int) on.length [] (by kernel_rfl) (fun hG => ⟨by omega, by omega⟩) ?_
    refine WPO_all tt_ok (by kernel_rfl) ?_
    refine WP_block ?_
    refine WP_seq (WP_region (WPO_all tt_ok (by kernel_rfl) ?_))
    refine WP_join ((on.getD k1 zPlace).lane == 0) (fun q => ⟨43, [(5, [], .s (.int .i64 (bif q then IntKind.i64.wrap (v1_1 + (weights.getD (on.getD k1 zPlace).load.toNat 0)) else bif ((on.getD k1 zPlace).lane == 2) then IntKind.i64.wrap (v1_1 - (weights.getD (on.getD k1 zPlace).load.toNat 0)) else v1_1))), (6, [], .s (.int .i64 (k1 : Int))), (0, [], .s (.ref 0)), (1, [], .s (.ref 1))], [(0, .sl .ro 65 2 on encPlace zPlace), (1, .sl .ro 3 1 weights encI 0)], 2, []⟩) (by kernel_rfl) (fun hc3 => ?_) (fun hc3 => ?_) ?_
    · have hc3' := hc3; try simp only [Bool.and_eq_true, Bool.or_eq_true, Bool.and_eq_false_iff, Bool.or_eq_false_iff, Bool.not_eq_true', Bool.not_eq_false', decide_eq_true_eq, decide_eq_false_iff_not, beq_iff_eq, beq_eq_false_iff_ne, bne_iff_ne, bne_eq_false_iff_eq, ne_eq] at hc3'
      refine WP_region (WPO_run tt_ok 4 (by kernel_rfl) ?_)
      refine IX tt_ok (k1 : Int) on.length [] (by kernel_rfl) (fun hG => ⟨by omega, by omega⟩) ?_
      refine WPO_run tt_ok 2 (by kernel_rfl) ?_
      refine IX tt_ok (on.getD k1 zPlace).load weights.length [] (by kernel_rfl) (fun hG => ⟨by omega, by omega⟩) ?_
      refine WPO_all tt_ok (by kernel_rfl) ?_
      exact Le_sel (ts := [5, 6, 0, 1]) (ids := [0, 1]) (nx := 2) (by kernel_rfl)
    · have hc3' := hc3; try simp only [Bool.and_eq_true, Bool.or_eq_true, Bool.and_eq_false_iff, Bool.or_eq_false_iff, Bool.not_eq_true', Bool.not_eq_false', decide_eq_true_eq, decide_eq_false_iff_not, beq_iff_eq, beq_eq_false_iff_ne, bne_iff_ne, bne_eq_false_iff_eq, ne_eq] at hc3'
      refine WP_seq (WP_region (WPO_all tt_ok (by kernel_rfl) ?_))
      refine WP_join ((on.getD k1 zPlace).lane == 2) (fun q => ⟨43, [(5, [], .s (.int .i64 (bif q then IntKind.i64.wrap (v1_1 - (weights.getD (on.getD k1 zPlace).load.toNat 0)) else v1_1))), (6, [], .s (.int .i64 (k1 : Int))), (0, [], .s (.ref 0)), (1, [], .s (.ref 1))], [(0, .sl .ro 65 2 on encPlace zPlace), (1, .sl .ro 3 1 weights encI 0)], 2, []⟩) (by kernel_rfl) (fun hc5 => ?_) (fun hc5 => ?_) ?_
      · have hc5' := hc5; try simp only [Bool.and_eq_true, Bool.or_eq_true, Bool.and_eq_false_iff, Bool.or_eq_false_iff, Bool.not_eq_true', Bool.not_eq_false', decide_eq_true_eq, decide_eq_false_iff_not, beq_iff_eq, beq_eq_false_iff_ne, bne_iff_ne, bne_eq_false_iff_eq, ne_eq] at hc5'
        refine WP_region (WPO_run tt_ok 4 (by kernel_rfl) ?_)
        refine IX tt_ok (k1 : Int) on.length [] (by kernel_rfl) (fun hG => ⟨by omega, by omega⟩) ?_
        refine WPO_run tt_ok 2 (by kernel_rfl) ?_
        refine IX tt_ok (on.getD k1 zPlace).load weights.length [] (by kernel_rfl) (fun hG => ⟨by omega, by omega⟩) ?_
        refine WPO_all tt_ok (by kernel_rfl) ?_
        exact Le_sel (ts := [5, 6, 0, 1]) (ids := [0, 1]) (nx := 2) (by kernel_rfl)
      · have hc5' := hc5; try simp only [Bool.and_eq_true, Bool.or_eq_true, Bool.and_eq_false_iff, Bool.or_eq_false_iff, Bool.not_eq_true', Bool.not_eq_false', decide_eq_true_eq, decide_eq_false_iff_not, beq_iff_eq, beq_eq_false_iff_ne, bne_iff_ne, bne_eq_false_iff_eq, ne_eq] at hc5'
        refine WP_skip ?_
        exact Le_sel (ts := [5, 6, 0, 1]) (ids := [0, 1]) (nx := 2) (by kernel_rfl)
      exact Le_sel (ts := [5, 6, 0, 1]) (ids := [0, 1]) (nx := 2) (by kernel_rfl)
    refine WP_region (WPO_all tt_ok (by kernel_rfl) ?_)
    show Q1 .normal _
    exact LA_go hq1 (ci := IntKind.i64.wrap ((k1 : Int) + 1)) (bif ((on.getD k1 zPlace).lane == 0) then IntKind.i64.wrap (v1_1 + (weights.getD (on.getD k1 zPlace).load.toNat 0)) else bif ((on.getD k1 zPlace).lane == 2) then IntKind.i64.wrap (v1_1 - (weights.getD (on.getD k1 zPlace).load.toNat 0)) else v1_1) hk1 (by show _ = ((k1 + 1 : Nat) : Int); rw [wrapI (by omega) (by omega)]; omega) (loopR_go hi1 hk1 hc1 (rfl)) trivial (Le_sel (ts := [6, 5, 0, 1]) (ids := [0, 1]) (nx := 2) (by kernel_rfl))
  intro u1_0 hR1 hP1 s' hl
  refine WP_le hl ?_
  clear hl s'
  refine WP_seq (WP_region (WPO_all tt_ok (by kernel_rfl) ?_))
  refine WP_ret ?_
  exact ⟨.s (.int .i64 u1_0), by kernel_rfl, fun nV w' h => ⟨by rw [show leanL on weights = u1_0 from by unfold leanL; simp only [hR1, cond_true, cond_false]]; rfl, h.bel⟩⟩
def trulyL_c1 (b : DBook) (bits : List Int) (k1 : Nat) : (List Int) → Bool := fun v1_1 => decide ((k1 : Int) < (b.loads.length : Int))
def trulyL_b1 (b : DBook) (bits : List Int) (k1 : Nat) : (List Int) → Bd (List Int) (List Int) := fun v1_1 => .go (v1_1 ++ ([(withF (b.loads.getD k1 zLoad).w (IntKind.i64.wrap ((chooseF bits (k1 : Int)) + (chooseF bits (IntKind.i64.wrap ((k1 : Int) + 1))))))]))
def trulyL (b : DBook) (bits : List Int) : (List Int) :=
  (match loopR (trulyL_c1 b bits) (trulyL_b1 b bits) b.loads.length 0 ([] : List Int) with | .brk u1_0 => u1_0 | .ret r => r)
end Go.Proofs.YthfnedbpmdkdjaaDoor.D
namespace Go.Proofs.YthfnedbpmdkdjaaDoor.Cm
open Go Go.RowKit Go.Proofs.YthfnedbpmdkdjaaDoor.Eng
set_option linter.unusedVariables false
set_option linter.unusedSimpArgs false
set_option linter.unusedSectionVars false
theorem range_erase (l : List Int) : ∀ i : Nat, ((List.range l.length).flatMap fun k : Nat => bif (k : Int) != (i : Int) then [l.getD k 0] else []) = l.eraseIdx i := by
  induction l with
  | nil => intro i; simp
  | cons x r ih =>
    intro i
    rw [List.length_cons, List.range_succ_eq_map, List.flatMap_cons, List.flatMap_map]
    cases i with
    | zero =>
      have h : ((List.range r.length).flatMap fun k : Nat => bif ((Nat.succ k : Nat) : Int) != ((0 : Nat) : Int) then [(x :: r).getD (Nat.succ k) 0] else []) = r := by
        have h1 : ((List.range r.length).flatMap fun k : Nat => bif ((Nat.succ k : Nat) : Int) != ((0 : Nat) : Int) then [(x :: r).getD (Nat.succ k) 0] else []) = (List.range r.length).map fun k => r.getD k 0 := by
          rw [List.map_eq_flatMap]
          congr 1
        rw [h1]
        apply List.ext_getElem
        · simp
        · intro j h1 h2
          simp [List.getD_eq_getElem?_getD, h2]
      rw [h]
      simp
    | succ i =>
      have h : ((List.range r.length).flatMap fun k : Nat => bif ((Nat.succ k : Nat) : Int) != ((i + 1 : Nat) : Int) then [(x :: r).getD (Nat.succ k) 0] else []) = r.eraseIdx i := by
        rw [← ih i]
        congr 1
        funext k
        have : (((Nat.succ k : Nat) : Int) != ((i + 1 : Nat) : Int)) = ((k : Int) != (i : Int)) := by
          rw [Bool.eq_iff_iff, bne_iff_ne, bne_iff_ne]; constructor <;> intro h h2 <;> apply h <;> omega
        rw [this]
        simp
      rw [h, show (((0 : Nat) : Int) != ((i + 1 : Nat) : Int)) = true from bne_iff_ne.2 (by omega)]
      simp
theorem dropped_eq {l : List Int} {i : Int} (h : 0 ≤ i) : droppedF l i = l.eraseIdx i.toNat := by
  unfold droppedF
  rw [loopR_app (fun k : Nat => bif (k : Int) != i then [l.getD k 0] else []) (fun k v hk => by simp only [droppedF_c1]; rw [decide_eq_true]; omega) (fun k v hk => by
    simp only [droppedF_b1]
    cases ((k : Int) != i) <;> simp)]
  rw [← range_erase l i.toNat, show ((i.toNat : Nat) : Int) = i by omega]
  simp
theorem dropped_len {l : List Int} {i : Int} (h : 0 ≤ i ∧ i < l.length) : (droppedF l i).length + 1 = l.length := by
  rw [dropped_eq h.1, List.length_eraseIdx_of_lt (by omega)]; omega
theorem dropped_mem {l : List Int} {i x : Int} (h : 0 ≤ i) (hx : x ∈ droppedF l i) : x ∈ l := by
  rw [dropped_eq h] at hx
  exact List.mem_of_mem_eraseIdx hx
end Go.Proofs.YthfnedbpmdkdjaaDoor.Cm
namespace Go.Proofs.YthfnedbpmdkdjaaDoor.D
open Go Go.RowKit Go.Proofs.YthfnedbpmdkdjaaDoor.Eng Go.Proofs.YthfnedbpmdkdjaaDoor.Cm
set_option linter.unusedVariables false
set_option linter.unusedSimpArgs false
set_option linter.unusedSectionVars false
def drawnL_c1 (b : DBook) (loads : List Int) (bits : List Int) (k1 : Nat) : ((List Int) × (List Place)) → Bool := fun (v1_0, v1_1) => decide ((v1_0.length : Int) > 0)
def drawnL_b1 (b : DBook) (loads : List Int) (bits : List Int) (k1 : Nat) : ((List Int) × (List Place)) → Bd ((List Int) × (List Place)) (List Place) := fun (v1_0, v1_1) => .go ((droppedF v1_0 (modF (chooseF bits (v1_1.length : Int)) (v1_0.length : Int))), v1_1 ++ ([(placeL (v1_0.getD (modF (chooseF bits (v1_1.length : Int)) (v1_0.length : Int)).toNat 0) (chooseF (membersF (b.loads.getD (v1_0.getD (modF (chooseF bits (v1_1.length : Int)) (v1_0.length : Int)).toNat 0).toNat zLoad).lanes 3) (chooseF bits (IntKind.i64.wrap ((v1_1.length : Int) + 2)))))]))
def drawnL (b : DBook) (loads : List Int) (bits : List Int) : (List Place) :=
  (match loopR (drawnL_c1 b loads bits) (drawnL_b1 b loads bits) loads.length 0 (([] : List Int) ++ loads, []) with | .brk (u1_0, u1_1) => u1_1 | .ret r => r)
theorem drawnL_calls (g0 g1 g2 : Value) (b : DBook) (loads : List Int) (bits : List Int) (w : World) (r0 : Reads w g0 3 b.loads encLoad zLoad) (r1 : Reads w g1 1 loads encI 0) (r2 : Reads w g2 1 bits encI 0) (hb5 : b.loads.length ≤ 5) (hll : loads.length ≤ 5) (hlo : ∀ x ∈ loads, 0 ≤ x ∧ x < b.loads.length) : Calls Tryd.prog 29 #[.agg #[g0, iv b.rule, iv b.most], g1, g2] w fun e w' => ∃ v0, e = .returned (v0) ∧ Below w.heap.size w w' ∧ w'.ownsRow w.heap.size 65 2 v0 (drawnL b loads bits).length (flat (drawnL b loads bits) encPlace) := by
  refine calls_of_WP (cx := cx0 w (vn [g0, g1, g2]) 3) (n := vn [g0, g1, g2]) (vs := [.g [.ref 0, .int .i64 b.rule, .int .i64 b.most], .s (.ref 1), .s (.ref 2)]) (hp := [(0, .sl .ro 61 3 b.loads encLoad zLoad), (1, .sl .ro 3 1 loads encI 0), (2, .sl .ro 3 1 bits encI 0)]) (nx := 3) tt_ok Tryd.func29 rfl rfl rfl (by kernel_rfl) (HSat_args (vn_one (by simp [r0.one, r1.one, r2.one])) (Nat.le_refl _) ⟨⟨⟨fun _ => rfl, by decide, r0⟩, (Nat.le_of_ble_eq_true rfl)⟩, ⟨⟨fun _ => rfl, by decide, r1⟩, (Nat.le_of_ble_eq_true rfl)⟩, ⟨⟨fun _ => rfl, by decide, r2⟩, (Nat.le_of_ble_eq_true rfl)⟩, trivial⟩) (vsOk (by kernel_rfl)) ?_
  have hl0 := Reads.len r0
  have hl1 := Reads.len r1
  have hl2 := Reads.len r2
  refine WP_seq (WP_region (WPO_all tt_ok (by kernel_rfl) ?_))
  refine WP_seq (WP_region (WPO_all tt_ok (by kernel_rfl) ?_))
  refine WP_seq (WP_region (LIT tt_ok (by kernel_rfl) ?_))
  refine LITSL 4 3 0 1 [] ([] : List Int) encI 0 (by kernel_rfl) rfl (fun _ => rfl) (fun n => rfl) ?_
  refine WPO_run tt_ok 1 (by kernel_rfl) ?_
  refine APPS tt_ok (.s (.ref 4)) (.s (.ref 1)) 33 3 (some 13) 1 ([] : List Int) loads encI 0 (by kernel_rfl) (by kernel_rfl) (by kernel_rfl) (by kernel_rfl) (.inr ⟨4, rfl, (by kernel_rfl)⟩) ⟨1, .ro, rfl, (by kernel_rfl)⟩ (fun y => rfl) (fun y => List.all_eq_true.1 rfl) (fun i hi => (by have hby : (tyL tt 3).map (·.bytes) = some 8 := (by kernel_rfl); rw [hi] at hby; simp only [Option.map_some, Option.some.injEq] at hby; rw [hby]; simp only [List.length_append, List.length_cons, List.length_nil]; omega)) ?_
  refine WPO_all tt_ok (by kernel_rfl) ?_
  refine WP_seq (WP_loopA (ρ := (List Place)) (drawnL_c1 b loads bits) (drawnL_b1 b loads bits) loads.length (([] : List Int) ++ loads, []) (fun k : Nat => (k : Int)) (fun (ci : Int) (zz : (List Int) × (List Place)) => ⟨53, [(8, [], .s (.ref 6)), (7, [], .s (.ref 7)), (3, [], .s (.p 3 0)), (2, [], .s (.ref 2))], [(7, .sl .own 65 2 zz.2 encPlace zPlace), (6, .sl .own 3 1 zz.1 encI 0), (3, .box 24 [.ref 0, .int .i64 b.rule, .int .i64 b.most]), (0, .sl .ro 61 3 b.loads encLoad zLoad), (1, .sl .ro 3 1 loads encI 0), (2, .sl .ro 3 1 bits encI 0)], 8, []⟩) (fun zz : (List Int) × (List Place) => ⟨53, [(7, [], .s (.ref 7))], [(7, .sl .own 65 2 zz.2 encPlace zPlace), (6, .sl .own 3 1 zz.1 encI 0), (3, .box 24 [.ref 0, .int .i64 b.rule, .int .i64 b.most]), (0, .sl .ro 61 3 b.loads encLoad zLoad), (1, .sl .ro 3 1 loads encI 0), (2, .sl .ro 3 1 bits encI 0)], 8, []⟩) (fun (k1 : Nat) (zz : (List Int) × (List Place)) => (zz.1.length + k1 = loads.length ∧ ∀ x ∈ zz.1, 0 ≤ x ∧ x < b.loads.length) ∧ zz.2.length = k1) ⟨⟨by simp, fun x hx => hlo x (by simpa using hx)⟩, rfl⟩ ⟨0, rfl, Le.trans (Le_nilT [7] 65 2 encPlace zPlace (fun _ => rfl)) (Le_ren [(7, 6), (6, 5)] ⟨by kernel_rfl, by kernel_rfl, by kernel_rfl, by kernel_rfl, by kernel_rfl, by kernel_rfl, trivial⟩ ⟨by kernel_rfl, rfl, by kernel_rfl, by kernel_rfl, rfl, by kernel_rfl, by kernel_rfl, rfl, by kernel_rfl, by kernel_rfl, rfl, by kernel_rfl, trivial⟩ (by kernel_rfl) (by kernel_rfl) (rnm_id (m := 3) (by kernel_rfl)) (by show 3 ≤ 8; decide) (by kernel_rfl) (by kernel_rfl))⟩ ?_ ?_)
  · intro k1 zz hn1 hp1 hi1 Q1 hq1 ho1
    obtain ⟨v1_0, v1_1⟩ := zz
    replace hp1 : (v1_0.length + k1 = loads.length ∧ ∀ x ∈ v1_0, 0 ≤ x ∧ x < b.loads.length) ∧ v1_1.length = k1 := hp1
    refine WP_seq (WP_seq (WP_region (WPO_all tt_ok (by kernel_rfl) ?_)))
    refine WP_cond (decide ((v1_0.length : Int) > 0)) (by kernel_rfl) (fun hc1 => ?_) (fun hc1 => ?_)
    rotate_left
    · refine WP_exit ?_
      show Q1 (.exit 0) _
      exact LA_exit hq1 (v1_0, v1_1) (loopR_end hi1 hc1) ⟨k1, hn1, hp1⟩ (Le_sel (ts := [7]) (ids := [7, 6, 3, 0, 1, 2]) (nx := 8) (by kernel_rfl))
    have hc1' := of_decide_eq_true hc1
    have hk1 : k1 < loads.length := by omega
    have hat := modF_in (chooseF bits (v1_1.length : Int)) (v1_0.length : Int) (by omega) (by omega)
    have hel := hp1.1.2 _ (getD_mem (z := 0) (show (modF (chooseF bits (v1_1.length : Int)) (v1_0.length : Int)).toNat < v1_0.length by omega))
    refine WP_skip ?_
    refine WP_block ?_
    refine WP_seq (WP_region (WPO_run tt_ok 3 (by kernel_rfl) ?_))
    refine CALL 55 [.s (.ref 2), .s (.int .i64 (v1_1.length : Int))] (.s (.int .i64 (chooseF bits (v1_1.length : Int)))) [] (by kernel_rfl) (goes_of (by kernel_rfl)) (by kernel_rfl) (by kernel_rfl) (fun hG nV w h => chooseF_calls (nV 2) bits (v1_1.length : Int) w (h.reads (id := 2) (kd := .ro) (e := 3) (by kernel_rfl)) ) ?_
    refine WPO_run tt_ok 2 (by kernel_rfl) ?_
    refine CALL 54 [.s (.int .i64 (chooseF bits (v1_1.length : Int))), .s (.int .i64 (v1_0.length : Int))] (.s (.int .i64 (modF (chooseF bits (v1_1.length : Int)) (v1_0.length : Int)))) [] (by kernel_rfl) (goes_of (by kernel_rfl)) (by kernel_rfl) (by kernel_rfl) (fun hG nV w h => modF_calls  (chooseF bits (v1_1.length : Int)) (v1_0.length : Int) w  ) ?_
    refine WPO_all tt_ok (by kernel_rfl) ?_
    refine WP_seq (WP_drawH [] (by kernel_rfl) (by kernel_rfl) ?_)
    refine H_run tt_ok [0, 1, 2, 3] (f' := 6) (by kernel_rfl) (by kernel_rfl) (by kernel_rfl) ?_
    refine H_IX tt_ok 4 (modF (chooseF bits (v1_1.length : Int)) (v1_0.length : Int)) v1_0.length [] (by kernel_rfl) (fun hG => ⟨by omega, by omega⟩) (by kernel_rfl) (by kernel_rfl) ?_
    refine H_run tt_ok [5] (f' := 4) (by kernel_rfl) (by kernel_rfl) (by kernel_rfl) ?_
    refine H_IX tt_ok 6 (v1_0.getD (modF (chooseF bits (v1_1.length : Int)) (v1_0.length : Int)).toNat 0) b.loads.length [] (by kernel_rfl) (fun hG => ⟨by omega, by omega⟩) (by kernel_rfl) (by kernel_rfl) ?_
    refine H_run tt_ok [7] (f' := 2) (by kernel_rfl) (by kernel_rfl) (by kernel_rfl) ?_
    refine H_step 8 (by kernel_rfl) (by kernel_rfl) (fun hfz cx' hx1 hx2 => ?_)
    refine WPO_all tt_ok (by kernel_rfl) ?_
    refine ⟨rfl, (hfz.fnds [7, 6, 3, 0, 1, 2] (by kernel_rfl) ⟨by kernel_rfl, by kernel_rfl, by kernel_rfl, by kernel_rfl, by kernel_rfl, by kernel_rfl, trivial⟩ (by kernel_rfl)), ?_⟩
    refine H_step 9 (by kernel_rfl) (by kernel_rfl) (fun hfz cx' hx1 hx2 => ?_)
    refine WPO_all tt_ok (by kernel_rfl) ?_
    refine ⟨rfl, (hfz.fnds [7, 6, 3, 0, 1, 2] (by kernel_rfl) ⟨by kernel_rfl, by kernel_rfl, by kernel_rfl, by kernel_rfl, by kernel_rfl, by kernel_rfl, trivial⟩ (by kernel_rfl)), ?_⟩
    refine H_done (by kernel_rfl) ?_
    refine WP_seq (WP_toX (σ := Unit) (fun _ => ⟨53, [(7, [], .s (.ref 11)), (9, [], .s (.int .i64 (modF (chooseF bits (v1_1.length : Int)) (v1_0.length : Int)))), (8, [], .s (.ref 6)), (3, [], .s (.p 3 0)), (2, [], .s (.ref 2))], [(11, .sl .own 65 2 (v1_1 ++ ([(placeL (v1_0.getD (modF (chooseF bits (v1_1.length : Int)) (v1_0.length : Int)).toNat 0) (chooseF (membersF (b.loads.getD (v1_0.getD (modF (chooseF bits (v1_1.length : Int)) (v1_0.length : Int)).toNat 0).toNat zLoad).lanes 3) (chooseF bits (IntKind.i64.wrap ((v1_1.length : Int) + 2)))))])) encPlace zPlace), (8, .box 61 [.int .i64 (b.loads.getD (v1_0.getD (modF (chooseF bits (v1_1.length : Int)) (v1_0.length : Int)).toNat 0).toNat zLoad).w.lo, .int .i64 (b.loads.getD (v1_0.getD (modF (chooseF bits (v1_1.length : Int)) (v1_0.length : Int)).toNat 0).toNat zLoad).w.hi, .int .i64 (b.loads.getD (v1_0.getD (modF (chooseF bits (v1_1.length : Int)) (v1_0.length : Int)).toNat 0).toNat zLoad).lanes]), (6, .sl .own 3 1 v1_0 encI 0), (3, .box 24 [.ref 0, .int .i64 b.rule, .int .i64 b.most]), (0, .sl .ro 61 3 b.loads encLoad zLoad), (1, .sl .ro 3 1 loads encI 0), (2, .sl .ro 3 1 bits encI 0)], 12, []⟩) ?_ ?_)
    · refine WP_drawH [7] (by kernel_rfl) (by kernel_rfl) ?_
      refine H_run tt_ok [0, 1, 2] (f' := 15) (by kernel_rfl) (by kernel_rfl) (by kernel_rfl) ?_
      refine H_IX tt_ok 3 (modF (chooseF bits (v1_1.length : Int)) (v1_0.length : Int)) v1_0.length [] (by kernel_rfl) (fun hG => ⟨by omega, by omega⟩) (by kernel_rfl) (by kernel_rfl) ?_
      refine H_run tt_ok [4, 5, 6, 8, 9] (f' := 9) (by kernel_rfl) (by kernel_rfl) (by kernel_rfl) ?_
      refine H_two 7 10 (by kernel_rfl) (by kernel_rfl) (by kernel_rfl) (fun hfz cx' hx1 hx2 => ?_) (fun hfz cx' hx1 hx2 => ?_)
      · refine CALLO 57 [.s (.int .i64 (b.loads.getD (v1_0.getD (modF (chooseF bits (v1_1.length : Int)) (v1_0.length : Int)).toNat 0).toNat zLoad).lanes), .s (.int .i64 3)] (.s (.ref 9)) 3 1 (membersF (b.loads.getD (v1_0.getD (modF (chooseF bits (v1_1.length : Int)) (v1_0.length : Int)).toNat 0).toNat zLoad).lanes 3) encI 0 9 (by kernel_rfl) (by kernel_rfl) (goes_of (by kernel_rfl)) (by kernel_rfl) (by kernel_rfl) (fun _ => rfl) ((fun nV w h => membersF_calls  (b.loads.getD (v1_0.getD (modF (chooseF bits (v1_1.length : Int)) (v1_0.length : Int)).toNat 0).toNat zLoad).lanes 3 w  (by first | assumption | omega))) ?_
        refine WPO_end (by kernel_rfl) ⟨rfl, (hfz.fnds [8, 6, 3, 0, 1, 2] (by kernel_rfl) ⟨by kernel_rfl, by kernel_rfl, by kernel_rfl, by kernel_rfl, by kernel_rfl, by kernel_rfl, trivial⟩ (by kernel_rfl)), ?_⟩
        refine H_step 10 (by kernel_rfl) (by kernel_rfl) (fun hfz cx' hx1 hx2 => ?_)
        refine WPO_all tt_ok (by kernel_rfl) ?_
        refine ⟨rfl, (hfz.fnds [8, 6, 3, 0, 1, 2] (by kernel_rfl) ⟨by kernel_rfl, by kernel_rfl, by kernel_rfl, by kernel_rfl, by kernel_rfl, by kernel_rfl, trivial⟩ (by kernel_rfl)), ?_⟩
        refine H_run tt_ok [11] (f' := 6) (by kernel_rfl) (by kernel_rfl) (by kernel_rfl) ?_
        refine H_step 12 (by kernel_rfl) (by kernel_rfl) (fun hfz cx' hx1 hx2 => ?_)
        refine CALL 55 [.s (.ref 2), .s (.int .i64 (IntKind.i64.wrap ((v1_1.length : Int) + 2)))] (.s (.int .i64 (chooseF bits (IntKind.i64.wrap ((v1_1.length : Int) + 2))))) [] (by kernel_rfl) (goes_of (by kernel_rfl)) (by kernel_rfl) (by kernel_rfl) (fun hG nV w h => chooseF_calls (nV 2) bits (IntKind.i64.wrap ((v1_1.length : Int) + 2)) w (h.reads (id := 2) (kd := .ro) (e := 3) (by kernel_rfl)) ) ?_
        refine WPO_end (by kernel_rfl) ⟨rfl, (hfz.fnds [8, 6, 3, 0, 1, 2] (by kernel_rfl) ⟨by kernel_rfl, by kernel_rfl, by kernel_rfl, by kernel_rfl, by kernel_rfl, by kernel_rfl, trivial⟩ (by kernel_rfl)), ?_⟩
        refine H_step 13 (by kernel_rfl) (by kernel_rfl) (fun hfz cx' hx1 hx2 => ?_)
        refine CALL 55 [.s (.ref 9), .s (.int .i64 (chooseF bits (IntKind.i64.wrap ((v1_1.length : Int) + 2))))] (.s (.int .i64 (chooseF (membersF (b.loads.getD (v1_0.getD (modF (chooseF bits (v1_1.length : Int)) (v1_0.length : Int)).toNat 0).toNat zLoad).lanes 3) (chooseF bits (IntKind.i64.wrap ((v1_1.length : Int) + 2)))))) [] (by kernel_rfl) (goes_of (by kernel_rfl)) (by kernel_rfl) (by kernel_rfl) (fun hG nV w h => chooseF_calls (nV 9) (membersF (b.loads.getD (v1_0.getD (modF (chooseF bits (v1_1.length : Int)) (v1_0.length : Int)).toNat 0).toNat zLoad).lanes 3) (chooseF bits (IntKind.i64.wrap ((v1_1.length : Int) + 2))) w (h.reads (id := 9) (kd := .own) (e := 3) (by kernel_rfl)) ) ?_
        refine WPO_end (by kernel_rfl) ⟨rfl, (hfz.fnds [8, 6, 3, 0, 1, 2] (by kernel_rfl) ⟨by kernel_rfl, by kernel_rfl, by kernel_rfl, by kernel_rfl, by kernel_rfl, by kernel_rfl, trivial⟩ (by kernel_rfl)), ?_⟩
        refine H_step 14 (by kernel_rfl) (by kernel_rfl) (fun hfz cx' hx1 hx2 => ?_)
        refine CALL 44 [.s (.int .i64 (v1_0.getD (modF (chooseF bits (v1_1.length : Int)) (v1_0.length : Int)).toNat 0)), .s (.int .i64 (chooseF (membersF (b.loads.getD (v1_0.getD (modF (chooseF bits (v1_1.length : Int)) (v1_0.length : Int)).toNat 0).toNat zLoad).lanes 3) (chooseF bits (IntKind.i64.wrap ((v1_1.length : Int) + 2)))))] (.g [.int .i64 (placeL (v1_0.getD (modF (chooseF bits (v1_1.length : Int)) (v1_0.length : Int)).toNat 0) (chooseF (membersF (b.loads.getD (v1_0.getD (modF (chooseF bits (v1_1.length : Int)) (v1_0.length : Int)).toNat 0).toNat zLoad).lanes 3) (chooseF bits (IntKind.i64.wrap ((v1_1.length : Int) + 2))))).load, .int .i64 (placeL (v1_0.getD (modF (chooseF bits (v1_1.length : Int)) (v1_0.length : Int)).toNat 0) (chooseF (membersF (b.loads.getD (v1_0.getD (modF (chooseF bits (v1_1.length : Int)) (v1_0.length : Int)).toNat 0).toNat zLoad).lanes 3) (chooseF bits (IntKind.i64.wrap ((v1_1.length : Int) + 2))))).lane]) [] (by kernel_rfl) (goes_of (by kernel_rfl)) (by kernel_rfl) (by kernel_rfl) (fun hG nV w h => placeL_calls  (v1_0.getD (modF (chooseF bits (v1_1.length : Int)) (v1_0.length : Int)).toNat 0) (chooseF (membersF (b.loads.getD (v1_0.getD (modF (chooseF bits (v1_1.length : Int)) (v1_0.length : Int)).toNat 0).toNat zLoad).lanes 3) (chooseF bits (IntKind.i64.wrap ((v1_1.length : Int) + 2)))) w  ) ?_
        refine WPO_end (by kernel_rfl) ⟨rfl, (hfz.fnds [8, 6, 3, 0, 1, 2] (by kernel_rfl) ⟨by kernel_rfl, by kernel_rfl, by kernel_rfl, by kernel_rfl, by kernel_rfl, by kernel_rfl, trivial⟩ (by kernel_rfl)), ?_⟩
        refine H_step 15 (by kernel_rfl) (by kernel_rfl) (fun hfz cx' hx1 hx2 => ?_)
        refine LIT tt_ok (by kernel_rfl) ?_
        refine LITSL 10 65 1 2 [.int .i64 (placeL (v1_0.getD (modF (chooseF bits (v1_1.length : Int)) (v1_0.length : Int)).toNat 0) (chooseF (membersF (b.loads.getD (v1_0.getD (modF (chooseF bits (v1_1.length : Int)) (v1_0.length : Int)).toNat 0).toNat zLoad).lanes 3) (chooseF bits (IntKind.i64.wrap ((v1_1.length : Int) + 2))))).load, .int .i64 (placeL (v1_0.getD (modF (chooseF bits (v1_1.length : Int)) (v1_0.length : Int)).toNat 0) (chooseF (membersF (b.loads.getD (v1_0.getD (modF (chooseF bits (v1_1.length : Int)) (v1_0.length : Int)).toNat 0).toNat zLoad).lanes 3) (chooseF bits (IntKind.i64.wrap ((v1_1.length : Int) + 2))))).lane] [(placeL (v1_0.getD (modF (chooseF bits (v1_1.length : Int)) (v1_0.length : Int)).toNat 0) (chooseF (membersF (b.loads.getD (v1_0.getD (modF (chooseF bits (v1_1.length : Int)) (v1_0.length : Int)).toNat 0).toNat zLoad).lanes 3) (chooseF bits (IntKind.i64.wrap ((v1_1.length : Int) + 2)))))] encPlace zPlace (by kernel_rfl) rfl (fun _ => rfl) (fun n => rfl) ?_
        refine WPO_end (by kernel_rfl) ⟨rfl, (hfz.fnds [8, 6, 3, 0, 1, 2] (by kernel_rfl) ⟨by kernel_rfl, by kernel_rfl, by kernel_rfl, by kernel_rfl, by kernel_rfl, by kernel_rfl, trivial⟩ (by kernel_rfl)), ?_⟩
        refine H_step 16 (by kernel_rfl) (by kernel_rfl) (fun hfz cx' hx1 hx2 => ?_)
        refine APP tt_ok (.s (.ref 7)) (.s (.ref 10)) 25 65 (some 48) 2 v1_1 ([(placeL (v1_0.getD (modF (chooseF bits (v1_1.length : Int)) (v1_0.length : Int)).toNat 0) (chooseF (membersF (b.loads.getD (v1_0.getD (modF (chooseF bits (v1_1.length : Int)) (v1_0.length : Int)).toNat 0).toNat zLoad).lanes 3) (chooseF bits (IntKind.i64.wrap ((v1_1.length : Int) + 2)))))]) encPlace zPlace (by kernel_rfl) (by kernel_rfl) (by kernel_rfl) (by kernel_rfl) (.inr (.inl ⟨7, rfl, (by kernel_rfl)⟩)) (.inr ⟨10, .own, rfl, (by kernel_rfl), (by simp only [List.length_cons, List.length_nil]; omega)⟩) (by simp) (fun y => rfl) (fun y => List.all_eq_true.1 rfl) (fun i hi => (by have hby : (tyL tt 65).map (·.bytes) = some 16 := (by kernel_rfl); rw [hi] at hby; simp only [Option.map_some, Option.some.injEq] at hby; rw [hby]; simp only [List.length_append, List.length_cons, List.length_nil]; omega)) ?_
        refine WPO_end (by kernel_rfl) ⟨rfl, (hfz.fnds [8, 6, 3, 0, 1, 2] (by kernel_rfl) ⟨by kernel_rfl, by kernel_rfl, by kernel_rfl, by kernel_rfl, by kernel_rfl, by kernel_rfl, trivial⟩ (by kernel_rfl)), ?_⟩
        refine H_run tt_ok [17] (f' := 0) (by kernel_rfl) (by kernel_rfl) (by kernel_rfl) ?_
        refine H_done (by kernel_rfl) ?_
        exact ⟨(), Le_sel (ts := [7, 9, 8, 3, 2]) (ids := [11, 8, 6, 3, 0, 1, 2]) (nx := 12) (by kernel_rfl)⟩
      · refine WPO_all tt_ok (by kernel_rfl) ?_
        refine ⟨rfl, (hfz.fnds [8, 6, 3, 0, 1, 2] (by kernel_rfl) ⟨by kernel_rfl, by kernel_rfl, by kernel_rfl, by kernel_rfl, by kernel_rfl, by kernel_rfl, trivial⟩ (by kernel_rfl)), ?_⟩
        refine H_run tt_ok [11] (f' := 7) (by kernel_rfl) (by kernel_rfl) (by kernel_rfl) ?_
        refine H_step 7 (by kernel_rfl) (by kernel_rfl) (fun hfz cx' hx1 hx2 => ?_)
        refine CALLO 57 [.s (.int .i64 (b.loads.getD (v1_0.getD (modF (chooseF bits (v1_1.length : Int)) (v1_0.length : Int)).toNat 0).toNat zLoad).lanes), .s (.int .i64 3)] (.s (.ref 9)) 3 1 (membersF (b.loads.getD (v1_0.getD (modF (chooseF bits (v1_1.length : Int)) (v1_0.length : Int)).toNat 0).toNat zLoad).lanes 3) encI 0 9 (by kernel_rfl) (by kernel_rfl) (goes_of (by kernel_rfl)) (by kernel_rfl) (by kernel_rfl) (fun _ => rfl) ((fun nV w h => membersF_calls  (b.loads.getD (v1_0.getD (modF (chooseF bits (v1_1.length : Int)) (v1_0.length : Int)).toNat 0).toNat zLoad).lanes 3 w  (by first | assumption | omega))) ?_
        refine WPO_end (by kernel_rfl) ⟨rfl, (hfz.fnds [8, 6, 3, 0, 1, 2] (by kernel_rfl) ⟨by kernel_rfl, by kernel_rfl, by kernel_rfl, by kernel_rfl, by kernel_rfl, by kernel_rfl, trivial⟩ (by kernel_rfl)), ?_⟩
        refine H_step 12 (by kernel_rfl) (by kernel_rfl) (fun hfz cx' hx1 hx2 => ?_)
        refine CALL 55 [.s (.ref 2), .s (.int .i64 (IntKind.i64.wrap ((v1_1.length : Int) + 2)))] (.s (.int .i64 (chooseF bits (IntKind.i64.wrap ((v1_1.length : Int) + 2))))) [] (by kernel_rfl) (goes_of (by kernel_rfl)) (by kernel_rfl) (by kernel_rfl) (fun hG nV w h => chooseF_calls (nV 2) bits (IntKind.i64.wrap ((v1_1.length : Int) + 2)) w (h.reads (id := 2) (kd := .ro) (e := 3) (by kernel_rfl)) ) ?_
        refine WPO_end (by kernel_rfl) ⟨rfl, (hfz.fnds [8, 6, 3, 0, 1, 2] (by kernel_rfl) ⟨by kernel_rfl, by kernel_rfl, by kernel_rfl, by kernel_rfl, by kernel_rfl, by kernel_rfl, trivial⟩ (by kernel_rfl)), ?_⟩
        refine H_step 13 (by kernel_rfl) (by kernel_rfl) (fun hfz cx' hx1 hx2 => ?_)
        refine CALL 55 [.s (.ref 9), .s (.int .i64 (chooseF bits (IntKind.i64.wrap ((v1_1.length : Int) + 2))))] (.s (.int .i64 (chooseF (membersF (b.loads.getD (v1_0.getD (modF (chooseF bits (v1_1.length : Int)) (v1_0.length : Int)).toNat 0).toNat zLoad).lanes 3) (chooseF bits (IntKind.i64.wrap ((v1_1.length : Int) + 2)))))) [] (by kernel_rfl) (goes_of (by kernel_rfl)) (by kernel_rfl) (by kernel_rfl) (fun hG nV w h => chooseF_calls (nV 9) (membersF (b.loads.getD (v1_0.getD (modF (chooseF bits (v1_1.length : Int)) (v1_0.length : Int)).toNat 0).toNat zLoad).lanes 3) (chooseF bits (IntKind.i64.wrap ((v1_1.length : Int) + 2))) w (h.reads (id := 9) (kd := .own) (e := 3) (by kernel_rfl)) ) ?_
        refine WPO_end (by kernel_rfl) ⟨rfl, (hfz.fnds [8, 6, 3, 0, 1, 2] (by kernel_rfl) ⟨by kernel_rfl, by kernel_rfl, by kernel_rfl, by kernel_rfl, by kernel_rfl, by kernel_rfl, trivial⟩ (by kernel_rfl)), ?_⟩
        refine H_step 14 (by kernel_rfl) (by kernel_rfl) (fun hfz cx' hx1 hx2 => ?_)
        refine CALL 44 [.s (.int .i64 (v1_0.getD (modF (chooseF bits (v1_1.length : Int)) (v1_0.length : Int)).toNat 0)), .s (.int .i64 (chooseF (membersF (b.loads.getD (v1_0.getD (modF (chooseF bits (v1_1.length : Int)) (v1_0.length : Int)).toNat 0).toNat zLoad).lanes 3) (chooseF bits (IntKind.i64.wrap ((v1_1.length : Int) + 2)))))] (.g [.int .i64 (placeL (v1_0.getD (modF (chooseF bits (v1_1.length : Int)) (v1_0.length : Int)).toNat 0) (chooseF (membersF (b.loads.getD (v1_0.getD (modF (chooseF bits (v1_1.length : Int)) (v1_0.length : Int)).toNat 0).toNat zLoad).lanes 3) (chooseF bits (IntKind.i64.wrap ((v1_1.length : Int) + 2))))).load, .int .i64 (placeL (v1_0.getD (modF (chooseF bits (v1_1.length : Int)) (v1_0.length : Int)).toNat 0) (chooseF (membersF (b.loads.getD (v1_0.getD (modF (chooseF bits (v1_1.length : Int)) (v1_0.length : Int)).toNat 0).toNat zLoad).lanes 3) (chooseF bits (IntKind.i64.wrap ((v1_1.length : Int) + 2))))).lane]) [] (by kernel_rfl) (goes_of (by kernel_rfl)) (by kernel_rfl) (by kernel_rfl) (fun hG nV w h => placeL_calls  (v1_0.getD (modF (chooseF bits (v1_1.length : Int)) (v1_0.length : Int)).toNat 0) (chooseF (membersF (b.loads.getD (v1_0.getD (modF (chooseF bits (v1_1.length : Int)) (v1_0.length : Int)).toNat 0).toNat zLoad).lanes 3) (chooseF bits (IntKind.i64.wrap ((v1_1.length : Int) + 2)))) w  ) ?_
        refine WPO_end (by kernel_rfl) ⟨rfl, (hfz.fnds [8, 6, 3, 0, 1, 2] (by kernel_rfl) ⟨by kernel_rfl, by kernel_rfl, by kernel_rfl, by kernel_rfl, by kernel_rfl, by kernel_rfl, trivial⟩ (by kernel_rfl)), ?_⟩
        refine H_step 15 (by kernel_rfl) (by kernel_rfl) (fun hfz cx' hx1 hx2 => ?_)
        refine LIT tt_ok (by kernel_rfl) ?_
        refine LITSL 10 65 1 2 [.int .i64 (placeL (v1_0.getD (modF (chooseF bits (v1_1.length : Int)) (v1_0.length : Int)).toNat 0) (chooseF (membersF (b.loads.getD (v1_0.getD (modF (chooseF bits (v1_1.length : Int)) (v1_0.length : Int)).toNat 0).toNat zLoad).lanes 3) (chooseF bits (IntKind.i64.wrap ((v1_1.length : Int) + 2))))).load, .int .i64 (placeL (v1_0.getD (modF (chooseF bits (v1_1.length : Int)) (v1_0.length : Int)).toNat 0) (chooseF (membersF (b.loads.getD (v1_0.getD (modF (chooseF bits (v1_1.length : Int)) (v1_0.length : Int)).toNat 0).toNat zLoad).lanes 3) (chooseF bits (IntKind.i64.wrap ((v1_1.length : Int) + 2))))).lane] [(placeL (v1_0.getD (modF (chooseF bits (v1_1.length : Int)) (v1_0.length : Int)).toNat 0) (chooseF (membersF (b.loads.getD (v1_0.getD (modF (chooseF bits (v1_1.length : Int)) (v1_0.length : Int)).toNat 0).toNat zLoad).lanes 3) (chooseF bits (IntKind.i64.wrap ((v1_1.length : Int) + 2)))))] encPlace zPlace (by kernel_rfl) rfl (fun _ => rfl) (fun n => rfl) ?_
        refine WPO_end (by kernel_rfl) ⟨rfl, (hfz.fnds [8, 6, 3, 0, 1, 2] (by kernel_rfl) ⟨by kernel_rfl, by kernel_rfl, by kernel_rfl, by kernel_rfl, by kernel_rfl, by kernel_rfl, trivial⟩ (by kernel_rfl)), ?_⟩
        refine H_step 16 (by kernel_rfl) (by kernel_rfl) (fun hfz cx' hx1 hx2 => ?_)
        refine APP tt_ok (.s (.ref 7)) (.s (.ref 10)) 25 65 (some 48) 2 v1_1 ([(placeL (v1_0.getD (modF (chooseF bits (v1_1.length : Int)) (v1_0.length : Int)).toNat 0) (chooseF (membersF (b.loads.getD (v1_0.getD (modF (chooseF bits (v1_1.length : Int)) (v1_0.length : Int)).toNat 0).toNat zLoad).lanes 3) (chooseF bits (IntKind.i64.wrap ((v1_1.length : Int) + 2)))))]) encPlace zPlace (by kernel_rfl) (by kernel_rfl) (by kernel_rfl) (by kernel_rfl) (.inr (.inl ⟨7, rfl, (by kernel_rfl)⟩)) (.inr ⟨10, .own, rfl, (by kernel_rfl), (by simp only [List.length_cons, List.length_nil]; omega)⟩) (by simp) (fun y => rfl) (fun y => List.all_eq_true.1 rfl) (fun i hi => (by have hby : (tyL tt 65).map (·.bytes) = some 16 := (by kernel_rfl); rw [hi] at hby; simp only [Option.map_some, Option.some.injEq] at hby; rw [hby]; simp only [List.length_append, List.length_cons, List.length_nil]; omega)) ?_
        refine WPO_end (by kernel_rfl) ⟨rfl, (hfz.fnds [8, 6, 3, 0, 1, 2] (by kernel_rfl) ⟨by kernel_rfl, by kernel_rfl, by kernel_rfl, by kernel_rfl, by kernel_rfl, by kernel_rfl, trivial⟩ (by kernel_rfl)), ?_⟩
        refine H_run tt_ok [17] (f' := 0) (by kernel_rfl) (by kernel_rfl) (by kernel_rfl) ?_
        refine H_done (by kernel_rfl) ?_
        exact ⟨(), Le_sel (ts := [7, 9, 8, 3, 2]) (ids := [11, 8, 6, 3, 0, 1, 2]) (nx := 12) (by kernel_rfl)⟩
    intro _
    refine WP_region (WPO_run tt_ok 2 (by kernel_rfl) ?_)
    refine CALLO 84 [.s (.ref 6), .s (.int .i64 (modF (chooseF bits (v1_1.length : Int)) (v1_0.length : Int)))] (.s (.ref 12)) 3 1 (droppedF v1_0 (modF (chooseF bits (v1_1.length : Int)) (v1_0.length : Int))) encI 0 12 (by kernel_rfl) (by kernel_rfl) (goes_of (by kernel_rfl)) (by kernel_rfl) (by kernel_rfl) (fun _ => rfl) ((fun nV w h => droppedF_calls (nV 6) v1_0 (modF (chooseF bits (v1_1.length : Int)) (v1_0.length : Int)) w (h.reads (id := 6) (kd := .own) (e := 3) (by kernel_rfl)) (by first | assumption | omega))) ?_
    refine WPO_all tt_ok (by kernel_rfl) ?_
    show Q1 .normal _
    exact LA_go hq1 (ci := ((k1 + 1) : Int)) ((droppedF v1_0 (modF (chooseF bits (v1_1.length : Int)) (v1_0.length : Int))), v1_1 ++ ([(placeL (v1_0.getD (modF (chooseF bits (v1_1.length : Int)) (v1_0.length : Int)).toNat 0) (chooseF (membersF (b.loads.getD (v1_0.getD (modF (chooseF bits (v1_1.length : Int)) (v1_0.length : Int)).toNat 0).toNat zLoad).lanes 3) (chooseF bits (IntKind.i64.wrap ((v1_1.length : Int) + 2)))))])) hk1 (rfl) (loopR_go hi1 hk1 hc1 (rfl)) (⟨⟨by have := dropped_len hat; simp only; omega, fun x hx => hp1.1.2 x (dropped_mem hat.1 hx)⟩, by rw [List.length_append, List.length_singleton]; omega⟩) (Le_ren [(7, 11), (6, 12)] ⟨by kernel_rfl, by kernel_rfl, by kernel_rfl, by kernel_rfl, by kernel_rfl, by kernel_rfl, trivial⟩ ⟨by kernel_rfl, rfl, by kernel_rfl, by kernel_rfl, rfl, by kernel_rfl, by kernel_rfl, rfl, by kernel_rfl, by kernel_rfl, rfl, by kernel_rfl, trivial⟩ (by kernel_rfl) (by kernel_rfl) (rnm_id (m := 3) (by kernel_rfl)) (by show 3 ≤ 8; decide) (by kernel_rfl) (by kernel_rfl))
  intro zz hR1 hP1 s' hl
  obtain ⟨u1_0, u1_1⟩ := zz
  obtain ⟨kP1, hkP1, hpP1⟩ := hP1
  replace hpP1 : (u1_0.length + kP1 = loads.length ∧ ∀ x ∈ u1_0, 0 ≤ x ∧ x < b.loads.length) ∧ u1_1.length = kP1 := hpP1
  refine WP_le hl ?_
  clear hl s'
  refine WP_seq (WP_region (WPO_all tt_ok (by kernel_rfl) ?_))
  refine WP_ret ?_
  exact ⟨.s (.ref 7), by kernel_rfl, fun nV w' h => ⟨nV 7, rfl, h.bel, by rw [show drawnL b loads bits = u1_1 from by unfold drawnL; simp only [hR1, cond_true, cond_false]]; exact own_of (z := zPlace) h (by kernel_rfl)⟩⟩
end Go.Proofs.YthfnedbpmdkdjaaDoor.D
