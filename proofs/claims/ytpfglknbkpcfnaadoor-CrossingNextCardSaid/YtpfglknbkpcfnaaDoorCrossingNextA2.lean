/- Parts of the proof of CrossingNext: the engine, contracts of functions, plain lemmas. -/
import Derived.Test.YtpfglknbkpcfnaaDoorCrossingNextA1
import Derived.ArgAppend
import Derived.Below
import Derived.Carry
import Derived.ChangeKeysEq
import Derived.ControlIn
import Derived.Deep.DeepHandedRow
import Derived.Deep.Draws
import Derived.Deep.Quiet
import Derived.Deep.Slices
import Derived.KernelRfl
import Derived.Laws.AppendOwn
import Derived.Laws.Cells
import Derived.Laws.CopyRow
import Derived.Laws.IdiomCopy
import Derived.Laws.IdiomRangeMap
import Derived.Laws.OwnMore
import Derived.Laws.Rows
import Derived.MapKept
import Derived.Maps.AppendAt
import Derived.OpenShut
import Derived.OrdersHeld
import Derived.OrdersIn
import Derived.ProofKit
import Derived.RangeFuncLeaves
import Derived.RangeFuncNested
import Derived.RangeFuncOwn
import Derived.SizedLaws
import Derived.Test.YtpfglknbkpcfnaaDoorProg
import Derived.Test.YtpfglknbkpcfnaaDoorRows
import Derived.WalkKit
import Derived.WideKeyRuns
set_option linter.all false
namespace Go.Proofs.YtpfglknbkpcfnaaDoor.Fw
open Go Go.RowKit Go.Proofs.YtpfglknbkpcfnaaDoor.Eng
def okC (b : Book) (k : Nat) (but : List Int) (c : Int × Int) : Bool := decide (c.1 ≤ b.hear.hi) && rightF b k c.1 c.2 but
def rowC (b : Book) (k : Nat) (but : List Int) (i j : Nat) : List (Int × Int) := ((List.range j).map fun q : Nat => ((b.ships.getD k zShip).aw.lo + i, (b.ships.getD k zShip).sp.lo + q)).filter (okC b k but)
def nA (b : Book) (k : Nat) : Nat := ((b.ships.getD k zShip).aw.hi - (b.ships.getD k zShip).aw.lo + 1).toNat
def nS (b : Book) (k : Nat) : Nat := ((b.ships.getD k zShip).sp.hi - (b.ships.getD k zShip).sp.lo + 1).toNat
def preC (b : Book) (k : Nat) (but : List Int) (i : Nat) : List (Int × Int) := (List.range i).flatMap fun q => rowC b k but q (nS b k)
def coursesF (b : Book) (k : Nat) (but : List Int) : List (Int × Int) := preC b k but (nA b k)
theorem rowC_snoc (b : Book) (k : Nat) (but : List Int) (i j : Nat) : rowC b k but i (j + 1) = rowC b k but i j ++ (if okC b k but ((b.ships.getD k zShip).aw.lo + i, (b.ships.getD k zShip).sp.lo + j) then [((b.ships.getD k zShip).aw.lo + (i : Int), (b.ships.getD k zShip).sp.lo + (j : Int))] else []) := by
  unfold rowC
  rw [List.range_succ, List.map_append, List.filter_append]
  congr 1
  simp only [List.map_cons, List.map_nil, List.filter_cons, List.filter_nil]
theorem rowC_prefix (b : Book) (k : Nat) (but : List Int) (i : Nat) {j j' : Nat} (h : j ≤ j') : rowC b k but i j <+: rowC b k but i j' := by
  unfold rowC
  refine List.IsPrefix.filter _ (List.IsPrefix.map _ ?_)
  exact List.prefix_iff_eq_take.2 (by rw [List.length_range, List.take_range]; congr 1; omega)
theorem preC_succ (b : Book) (k : Nat) (but : List Int) (i : Nat) : preC b k but (i + 1) = preC b k but i ++ rowC b k but i (nS b k) := by
  unfold preC
  rw [List.range_succ, List.flatMap_append]
  simp
theorem preC_prefix (b : Book) (k : Nat) (but : List Int) {i i' : Nat} (h : i ≤ i') : preC b k but i <+: preC b k but i' := by
  induction i' with
  | zero => obtain rfl : i = 0 := by omega
            exact List.prefix_refl _
  | succ m ih =>
    by_cases e : i = m + 1
    · subst e; exact List.prefix_refl _
    rw [preC_succ]; exact (ih (by omega)).trans (List.prefix_append _ _)
theorem courses_prefix {b : Book} {k : Nat} {but : List Int} {i j : Nat} (hi : i < nA b k) (hj : j < nS b k) (h : okC b k but ((b.ships.getD k zShip).aw.lo + i, (b.ships.getD k zShip).sp.lo + j) = true) :
    (preC b k but i ++ rowC b k but i j) ++ [((b.ships.getD k zShip).aw.lo + (i : Int), (b.ships.getD k zShip).sp.lo + (j : Int))] <+: coursesF b k but := by
  have h1 : (preC b k but i ++ rowC b k but i j) ++ [((b.ships.getD k zShip).aw.lo + (i : Int), (b.ships.getD k zShip).sp.lo + (j : Int))] = preC b k but i ++ rowC b k but i (j + 1) := by
    rw [rowC_snoc, if_pos h, List.append_assoc]
  rw [h1]
  refine List.IsPrefix.trans ?_ (preC_prefix b k but (i := i + 1) (by omega))
  rw [preC_succ]
  exact List.prefix_append_right_inj _ |>.2 (rowC_prefix b k but i (by omega))
theorem okC_of {b : Book} {k : Nat} {but : List Int} {a s : Int} (h : ((a == 0 && s == 0) || decide (a > b.hear.hi) || !rightF b k a s but) = false) : okC b k but (a, s) = true := by
  simp only [Bool.or_eq_false_iff, Bool.not_eq_false', decide_eq_false_iff_not] at h
  simp only [okC, Bool.and_eq_true, decide_eq_true_eq]
  exact ⟨by omega, h.2⟩
theorem okC_not {b : Book} {k : Nat} {but : List Int} {a s : Int} (h : ((a == 0 && s == 0) || decide (a > b.hear.hi) || !rightF b k a s but) = true) (ha : 1 ≤ a) : ¬ okC b k but (a, s) = true := by
  intro ho
  simp only [okC, Bool.and_eq_true, decide_eq_true_eq] at ho
  rw [ho.2] at h
  simp only [Bool.or_eq_true, Bool.and_eq_true, beq_iff_eq, decide_eq_true_eq, Bool.not_true, Bool.false_eq_true, or_false] at h
  omega
def encC (c : Int × Int) : Array Value := #[.agg #[iv c.1, iv c.2]]
abbrev bookK (b : Book) : List AC := [.ref 0, ai b.hear.lo, ai b.hear.hi, ai b.br, ai b.cr, ai b.sl, .ref 1, .ref 8]
def ekC (c : Int × Int) : Value := pairV c.1 c.2
def exC (b : Book) (k : Nat) (c : Int × Int) : Value := .agg (arrBV 201 (nearF b k c.1 c.2))
def MapsAt (b : Book) (but : List Int) (maps : List Nat) (w : World) : Prop := ∀ q, (h : q < maps.length) → w.heap[maps[q]]? = some (.map (ents (coursesF b q but) ekC (exC b q)) (coursesF b q but).length)
theorem MapsAt.stab {b : Book} {but : List Int} {maps : List Nat} {w1 w2 : World} (h : MapsAt b but maps w1) (hw : ∀ g, g ∈ maps → w2.heap[g]? = w1.heap[g]?) : MapsAt b but maps w2 := fun q hq => (hw _ (List.getElem_mem hq)).trans (h q hq)
abbrev cloC : HE := .clo 96 [] [.s (.p 3 0), .s (.p 4 0), .s (.p 5 0), .s (.p 6 0)]
abbrev pfC (b : Book) (but : List Int) (maps : List Nat) : HE := .pf (MapsAt b but maps) (· ∈ maps)
abbrev itC (b : Book) (k : Nat) : List (Nat × HE) := [(14, .box 118 (bookK b)), (15, .box 3 [ai k]), (16, .box 51 [.ref 2])]
abbrev roC (b : Book) (but : List Int) (maps : List Nat) : List (Nat × HE) := [(0, .sl .ro 103 5 b.ships encShip zShip), (1, .sl .ro 105 4 b.sights encSight zSight), (2, .sl .ro 3 1 but encI 0), (7, cloC), (9, pfC b but maps)]
theorem courses_iter (b : Book) (k : Nat) (but : List Int) (maps : List Nat) (hk : k < b.ships.length) (hv : Valid b) : IterOk Tryd.prog 106 [.s (.p 14 0), .s (.p 15 0), .s (.p 16 0)] (itC b k) (roC b but maps) 18 encC (coursesF b k but) := by
  intro cx n w L RF GR J Jx G0 hJ hJx hY hh
  have e : (#[.func (.yield L) #[] #[]] ++ (([.s (.p 14 0), .s (.p 15 0), .s (.p 16 0)] : List AV).map (AV.c n)).toArray : Array Value) = (([.s (.v (.func (.yield L) #[] #[])), .s (.p 14 0), .s (.p 15 0), .s (.p 16 0)] : List AV).map (AV.c n)).toArray := by simp [AV.c, AC.c]
  rw [e]
  have hsh := hv.ship hk
  refine calls_of_WP (cx := ⟨cx.w0, cx.ok, n, 20, true⟩) (n := n) (vs := [.s (.v (.func (.yield L) #[] #[])), .s (.p 14 0), .s (.p 15 0), .s (.p 16 0)]) (hp := (18, .jf (J [] G0) G0) :: (19, .pf RF GR) :: (itC b k ++ roC b but maps)) (nx := 20) tt_ok Tryd.func106 rfl rfl rfl (by kernel_rfl) (hh.top.slots) (vsOk (by kernel_rfl)) ?_
  have hnA : IntKind.i64.wrap (IntKind.i64.wrap ((b.ships.getD k zShip).aw.hi - (b.ships.getD k zShip).aw.lo) + 1) = (nA b k : Int) := by rw [wrapI (x := (b.ships.getD k zShip).aw.hi - (b.ships.getD k zShip).aw.lo) (by omega) (by omega), wrapI (by omega) (by omega)]; unfold nA; omega
  have hnS : IntKind.i64.wrap (IntKind.i64.wrap ((b.ships.getD k zShip).sp.hi - (b.ships.getD k zShip).sp.lo) + 1) = (nS b k : Int) := by rw [wrapI (x := (b.ships.getD k zShip).sp.hi - (b.ships.getD k zShip).sp.lo) (by omega) (by omega), wrapI (by omega) (by omega)]; unfold nS; omega
  refine WP_seq (WP_drawH [] (by kernel_rfl) (by kernel_rfl) ?_)
  refine H_rn tt_ok [0, 1, 2, 3] ?_
  refine H_IX tt_ok 4 (k : Int) b.ships.length [] (by kernel_rfl) (fun hG => ⟨by omega, by omega⟩) (by kernel_rfl) (by kernel_rfl) ?_
  refine H_rn tt_ok [5, 6] ?_
  refine H_mkf 7 (by kernel_rfl) (by kernel_rfl) (by kernel_rfl) (by kernel_rfl) ?_
  refine H_stp 8 fun hfz cx' hx1 hx2 => ?_
  refine WPA tt_ok ?_
  refine ⟨rfl, (hfz.fs [18, 19, 14, 15, 16, 0, 1, 2, 7, 9]), ?_⟩
  refine H_stp 9 fun hfz cx' hx1 hx2 => ?_
  refine WPA tt_ok ?_
  refine ⟨rfl, (hfz.fs [18, 19, 14, 15, 16, 0, 1, 2, 7, 9]), ?_⟩
  refine H_rn tt_ok [10] ?_
  refine H_done (by kernel_rfl) ?_
  refine WSA tt_ok ?_
  refine WP_block (WP_loop (σ := Int × List (Int × Int) × (Nat → Prop)) (fun zz => ⟨77, [(26, [], .s (.int .i64 zz.1)), (25, [], .s (.int .i64 (IntKind.i64.wrap ((IntKind.i64.wrap ((b.ships.getD k zShip).aw.hi - (b.ships.getD k zShip).aw.lo)) + 1)))), (6, [], .s (.ref 20)), (5, [], .s (.p 21 0)), (0, [], .s (.v (.func (.yield L) #[] #[]))), (1, [], .s (.p 14 0)), (2, [], .s (.p 15 0)), (3, [], .s (.p 16 0))], [(21, .box 103 [.int .i64 (b.ships.getD k zShip).m, .int .i64 (b.ships.getD k zShip).aw.lo, .int .i64 (b.ships.getD k zShip).aw.hi, .int .i64 (b.ships.getD k zShip).sp.lo, .int .i64 (b.ships.getD k zShip).sp.hi]), (20, .clo 107 [.g (fwC (.ref 0) b [.ref 1, .ref 8])] []), (18, .jf (J zz.2.1 zz.2.2) zz.2.2), (19, .pf RF GR), (14, .box 118 (fwC (.ref 0) b [.ref 1, .ref 8])), (15, .box 3 [.int .i64 (k : Int)]), (16, .box 51 [.ref 2]), (0, .sl .ro 103 5 b.ships encShip zShip), (1, .sl .ro 105 4 b.sights encSight zSight), (2, .sl .ro 3 1 but encI 0), (7, cloC), (9, pfC b but maps)], 22, []⟩) (fun zz => ∃ i : Nat, i ≤ nA b k ∧ zz.1 = i ∧ zz.2.1 = preC b k but i) (fun zz => nA b k - zz.1.toNat) (0, [], G0) (⟨0, by omega, rfl, rfl⟩) (Le_sel (ts := [26, 25, 6, 5, 0, 1, 2, 3]) (ids := [21, 20, 18, 19, 14, 15, 16, 0, 1, 2, 7, 9]) (nx := 22) (by kernel_rfl)) ?_)
  rintro ⟨ii, pre, G⟩ hinv
  obtain ⟨i, hi, hii, hpre⟩ := hinv
  simp only at hii hpre
  subst hii
  subst hpre
  refine WSA tt_ok ?_
  refine WP_seq (WP_cond (decide ((i : Int) < (IntKind.i64.wrap ((IntKind.i64.wrap ((b.ships.getD k zShip).aw.hi - (b.ships.getD k zShip).aw.lo)) + 1)))) (by kernel_rfl) (fun hc1 => ?_) (fun hc1 => ?_))
  · have hc1 := of_decide_eq_true hc1
    rw [hnA] at hc1
    have hi : i < nA b k := by omega
    have hiA : (i : Int) ≤ (b.ships.getD k zShip).aw.hi - (b.ships.getD k zShip).aw.lo := by unfold nA at hi; omega
    refine WP_skip ?_
    refine WP_seq (WP_block ?_)
    refine WSA tt_ok ?_
    refine WP_scope ?_
    refine WP_seq (WP_label ?_)
    refine WSA tt_ok ?_
    refine WP_block (WP_loop (σ := Int × List (Int × Int) × (Nat → Prop)) (fun zz => ⟨77, [(37, [], .s (.int .i64 zz.1)), (36, [], .s (.int .i64 (IntKind.i64.wrap ((IntKind.i64.wrap ((b.ships.getD k zShip).sp.hi - (b.ships.getD k zShip).sp.lo)) + 1)))), (7, [], .s (.int .i64 (i : Int))), (26, [], .s (.int .i64 (i : Int))), (25, [], .s (.int .i64 (IntKind.i64.wrap ((IntKind.i64.wrap ((b.ships.getD k zShip).aw.hi - (b.ships.getD k zShip).aw.lo)) + 1)))), (6, [], .s (.ref 20)), (5, [], .s (.p 21 0)), (0, [], .s (.v (.func (.yield L) #[] #[]))), (1, [], .s (.p 14 0)), (2, [], .s (.p 15 0)), (3, [], .s (.p 16 0))], [(21, .box 103 [.int .i64 (b.ships.getD k zShip).m, .int .i64 (b.ships.getD k zShip).aw.lo, .int .i64 (b.ships.getD k zShip).aw.hi, .int .i64 (b.ships.getD k zShip).sp.lo, .int .i64 (b.ships.getD k zShip).sp.hi]), (20, .clo 107 [.g (fwC (.ref 0) b [.ref 1, .ref 8])] []), (18, .jf (J zz.2.1 zz.2.2) zz.2.2), (19, .pf RF GR), (14, .box 118 (fwC (.ref 0) b [.ref 1, .ref 8])), (15, .box 3 [.int .i64 (k : Int)]), (16, .box 51 [.ref 2]), (0, .sl .ro 103 5 b.ships encShip zShip), (1, .sl .ro 105 4 b.sights encSight zSight), (2, .sl .ro 3 1 but encI 0), (7, cloC), (9, pfC b but maps)], 22, []⟩) (fun zz => ∃ j : Nat, j ≤ nS b k ∧ zz.1 = j ∧ zz.2.1 = preC b k but i ++ rowC b k but i j) (fun zz => nS b k - zz.1.toNat) (0, preC b k but i, G) (⟨0, by omega, rfl, by simp [rowC]⟩) (Le_sel (ts := [37, 36, 7, 26, 25, 6, 5, 0, 1, 2, 3]) (ids := [21, 20, 18, 19, 14, 15, 16, 0, 1, 2, 7, 9]) (nx := 22) (by kernel_rfl)) ?_)
    rintro ⟨jj, pre, G⟩ hinv
    obtain ⟨j, hj, hjj, hpre⟩ := hinv
    simp only at hjj hpre
    subst hjj
    subst hpre
    refine WSA tt_ok ?_
    refine WP_seq (WP_cond (decide ((j : Int) < (IntKind.i64.wrap ((IntKind.i64.wrap ((b.ships.getD k zShip).sp.hi - (b.ships.getD k zShip).sp.lo)) + 1)))) (by kernel_rfl) (fun hc2 => ?_) (fun hc2 => ?_))
    · have hc2 := of_decide_eq_true hc2
      rw [hnS] at hc2
      have hj : j < nS b k := by omega
      have hjS : (j : Int) ≤ (b.ships.getD k zShip).sp.hi - (b.ships.getD k zShip).sp.lo := by unfold nS at hj; omega
      refine WP_skip ?_
      refine WP_seq (WP_block ?_)
      refine WSA tt_ok ?_
      refine WSA tt_ok ?_
      refine WP_cut (S1 := ⟨77, [(9, [], .s (.p 22 0)), (37, [], .s (.int .i64 (j : Int))), (36, [], .s (.int .i64 (IntKind.i64.wrap ((IntKind.i64.wrap ((b.ships.getD k zShip).sp.hi - (b.ships.getD k zShip).sp.lo)) + 1)))), (7, [], .s (.int .i64 (i : Int))), (26, [], .s (.int .i64 (i : Int))), (25, [], .s (.int .i64 (IntKind.i64.wrap ((IntKind.i64.wrap ((b.ships.getD k zShip).aw.hi - (b.ships.getD k zShip).aw.lo)) + 1)))), (6, [], .s (.ref 20)), (5, [], .s (.p 21 0)), (0, [], .s (.v (.func (.yield L) #[] #[]))), (1, [], .s (.p 14 0)), (2, [], .s (.p 15 0)), (3, [], .s (.p 16 0))], [(22, .box 155 [.int .i64 (IntKind.i64.wrap ((b.ships.getD k zShip).aw.lo + (i : Int))), .int .i64 (IntKind.i64.wrap ((b.ships.getD k zShip).sp.lo + (j : Int)))]), (21, .box 103 [.int .i64 (b.ships.getD k zShip).m, .int .i64 (b.ships.getD k zShip).aw.lo, .int .i64 (b.ships.getD k zShip).aw.hi, .int .i64 (b.ships.getD k zShip).sp.lo, .int .i64 (b.ships.getD k zShip).sp.hi]), (20, .clo 107 [.g (fwC (.ref 0) b [.ref 1, .ref 8])] []), (18, .jf (J (preC b k but i ++ rowC b k but i j) G) G), (19, .pf RF GR), (14, .box 118 (fwC (.ref 0) b [.ref 1, .ref 8])), (15, .box 3 [.int .i64 (k : Int)]), (16, .box 51 [.ref 2]), (0, .sl .ro 103 5 b.ships encShip zShip), (1, .sl .ro 105 4 b.sights encSight zSight), (2, .sl .ro 3 1 but encI 0), (7, cloC), (9, pfC b but maps)], 23, []⟩) (S2 := ⟨77, [(9, [], .s (.p 22 0)), (37, [], .s (.int .i64 (j : Int))), (36, [], .s (.int .i64 (IntKind.i64.wrap ((IntKind.i64.wrap ((b.ships.getD k zShip).sp.hi - (b.ships.getD k zShip).sp.lo)) + 1)))), (7, [], .s (.int .i64 (i : Int))), (26, [], .s (.int .i64 (i : Int))), (25, [], .s (.int .i64 (IntKind.i64.wrap ((IntKind.i64.wrap ((b.ships.getD k zShip).aw.hi - (b.ships.getD k zShip).aw.lo)) + 1)))), (6, [], .s (.ref 20)), (5, [], .s (.p 21 0)), (0, [], .s (.v (.func (.yield L) #[] #[]))), (1, [], .s (.p 14 0)), (2, [], .s (.p 15 0)), (3, [], .s (.p 16 0))], [(22, .box 155 [.int .i64 ((b.ships.getD k zShip).aw.lo + (i : Int)), .int .i64 ((b.ships.getD k zShip).sp.lo + (j : Int))]), (21, .box 103 [.int .i64 (b.ships.getD k zShip).m, .int .i64 (b.ships.getD k zShip).aw.lo, .int .i64 (b.ships.getD k zShip).aw.hi, .int .i64 (b.ships.getD k zShip).sp.lo, .int .i64 (b.ships.getD k zShip).sp.hi]), (20, .clo 107 [.g (fwC (.ref 0) b [.ref 1, .ref 8])] []), (18, .jf (J (preC b k but i ++ rowC b k but i j) G) G), (19, .pf RF GR), (14, .box 118 (fwC (.ref 0) b [.ref 1, .ref 8])), (15, .box 3 [.int .i64 (k : Int)]), (16, .box 51 [.ref 2]), (0, .sl .ro 103 5 b.ships encShip zShip), (1, .sl .ro 105 4 b.sights encSight zSight), (2, .sl .ro 3 1 but encI 0), (7, cloC), (9, pfC b but maps)], 23, []⟩) (Le_sel (ts := [9, 37, 36, 7, 26, 25, 6, 5, 0, 1, 2, 3]) (ids := [22, 21, 20, 18, 19, 14, 15, 16, 0, 1, 2, 7, 9]) (nx := 23) (by kernel_rfl)) (by rw [wrapI (x := (b.ships.getD k zShip).aw.lo + (i : Int)) (by omega) (by omega), wrapI (x := (b.ships.getD k zShip).sp.lo + (j : Int)) (by omega) (by omega)]) ?_
      refine WP_seq (WP_seq (WP_draw (by kernel_rfl) (by kernel_rfl) ?_))
      refine WPQ_run tt_ok 1 (by kernel_rfl) ?_
      refine QCALL 108 [] (.g [.int .i64 0, .int .i64 0]) [] (by kernel_rfl) (goes_of (by kernel_rfl)) (by kernel_rfl) (by kernel_rfl) (fun _ _ w _ => still_calls w) ?_
      refine QBIN .eql 155 (.tmp 51) (.tmp 52) (.g [.int .i64 ((b.ships.getD k zShip).aw.lo + (i : Int)), .int .i64 ((b.ships.getD k zShip).sp.lo + (j : Int))]) (.g [.int .i64 0, .int .i64 0]) (.s (.bool (((b.ships.getD k zShip).aw.lo + (i : Int)) == 0 && ((b.ships.getD k zShip).sp.lo + (j : Int)) == 0))) [] (by kernel_rfl) (by kernel_rfl) (by kernel_rfl) (fun _ => BinOk_pair (by kernel_rfl) _ _ _ _) ?_
      refine WPQ_run tt_ok 14 (by kernel_rfl) ?_
      refine QCALL 107 [.g (fwC (.ref 0) b [.ref 1, .ref 8]), .s (.int .i64 (k : Int)), .g [.int .i64 ((b.ships.getD k zShip).aw.lo + (i : Int)), .int .i64 ((b.ships.getD k zShip).sp.lo + (j : Int))], .s (.ref 2)] (.s (.bool (rightF b k ((b.ships.getD k zShip).aw.lo + (i : Int)) ((b.ships.getD k zShip).sp.lo + (j : Int)) but))) [((((b.ships.getD k zShip).aw.lo + (i : Int)) == 0 && ((b.ships.getD k zShip).sp.lo + (j : Int)) == 0) || (decide (((b.ships.getD k zShip).aw.lo + (i : Int)) > b.hear.hi)), false)] (by kernel_rfl) (goes_of (by kernel_rfl)) (by kernel_rfl) (by kernel_rfl) (fun _ n w h => right_calls (n 0) (n 1) (n 8) (n 2) b _ _ _ but w (HSat_toBook h (by kernel_rfl) (by kernel_rfl)) (h.one 8) (h.rd 2 3) hk hv (by omega) (by omega)) ?_
      refine WPQ_all tt_ok (by kernel_rfl) ?_
      refine WP_cond (((((b.ships.getD k zShip).aw.lo + (i : Int)) == 0 && ((b.ships.getD k zShip).sp.lo + (j : Int)) == 0) || (decide (((b.ships.getD k zShip).aw.lo + (i : Int)) > b.hear.hi))) || (!(rightF b k ((b.ships.getD k zShip).aw.lo + (i : Int)) ((b.ships.getD k zShip).sp.lo + (j : Int)) but))) (by kernel_rfl) (fun hc3 => ?_) (fun hc3 => ?_)
      · refine WP_exit ?_
        refine WRA tt_ok ?_
        refine ⟨(IntKind.i64.wrap ((j : Int) + 1), preC b k but i ++ rowC b k but i j, G), ?_, ?_, Le_sel (ts := [37, 36, 7, 26, 25, 6, 5, 0, 1, 2, 3]) (ids := [21, 20, 18, 19, 14, 15, 16, 0, 1, 2, 7, 9]) (nx := 22) (by kernel_rfl)⟩
        · refine ⟨j + 1, by omega, by simp only; rw [wrapI (by omega) (by omega)]; rfl, ?_⟩
          simp only
          rw [rowC_snoc]
          first
          | rw [if_pos (okC_of hc3), List.append_assoc]
          | rw [if_neg (okC_not hc3 (by omega)), List.append_nil]
        simp only
        rw [wrapI (by omega) (by omega)]
        omega
      refine WP_skip ?_
      refine WP_seq (WP_yield tt_ok 2 (preC b k but i ++ rowC b k but i j) (((b.ships.getD k zShip).aw.lo + (i : Int)), ((b.ships.getD k zShip).sp.lo + (j : Int))) L 18 19 [.g [.int .i64 ((b.ships.getD k zShip).aw.lo + (i : Int)), .int .i64 ((b.ships.getD k zShip).sp.lo + (j : Int))]] (some 73) G GR encC (coursesF b k but) RF J Jx (by kernel_rfl) (by kernel_rfl) (by kernel_rfl) (by kernel_rfl) hJ hJx hY (by exact courses_prefix hi hj (okC_of hc3)) (fun n => by rfl) (fun F' G' b => by kernel_rfl) (fun G' => ?_) (fun G' => ?_))
      · refine WP_cond (!true) (by kernel_rfl) (fun h => by cases h) (fun hc4 => ?_)
        refine WP_skip ?_
        refine WRA tt_ok ?_
        refine ⟨(IntKind.i64.wrap ((j : Int) + 1), preC b k but i ++ rowC b k but i j ++ [(((b.ships.getD k zShip).aw.lo + (i : Int)), ((b.ships.getD k zShip).sp.lo + (j : Int)))], G'), ?_, ?_, Le_sel (ts := [37, 36, 7, 26, 25, 6, 5, 0, 1, 2, 3]) (ids := [21, 20, 18, 19, 14, 15, 16, 0, 1, 2, 7, 9]) (nx := 22) (by kernel_rfl)⟩
        · refine ⟨j + 1, by omega, by simp only; rw [wrapI (by omega) (by omega)]; rfl, ?_⟩
          simp only
          rw [rowC_snoc]
          first
          | rw [if_pos (okC_of hc3), List.append_assoc]
          | rw [if_neg (okC_not hc3 (by omega)), List.append_nil]
        simp only
        rw [wrapI (by omega) (by omega)]
        omega
      refine WP_cond (!false) (by kernel_rfl) (fun hc5 => ?_) (fun h => by cases h)
      refine WP_ret ?_
      exact ⟨.t [], by kernel_rfl, fun n1 w' h => ⟨⟨_, rfl⟩, n1, G', preC b k but i ++ rowC b k but i j ++ [(((b.ships.getD k zShip).aw.lo + (i : Int)), ((b.ships.getD k zShip).sp.lo + (j : Int)))], fun id hid => h.ini id hid, .inr ⟨courses_prefix hi hj (okC_of hc3), (h.back hh.ini hh.inx).two (by kernel_rfl) (by kernel_rfl) rfl 20 hh.inx (by omega) (by omega)⟩⟩⟩
    have hc2 := of_decide_eq_false hc2
    refine WP_exit ?_
    rw [hnS] at hc2
    have hjn : j = nS b k := by omega
    refine WRA tt_ok ?_
    refine ⟨(IntKind.i64.wrap ((i : Int) + 1), preC b k but i ++ rowC b k but i j, G), ?_, ?_, Le_sel (ts := [26, 25, 6, 5, 0, 1, 2, 3]) (ids := [21, 20, 18, 19, 14, 15, 16, 0, 1, 2, 7, 9]) (nx := 22) (by kernel_rfl)⟩
    · refine ⟨i + 1, by omega, by simp only; rw [wrapI (by omega) (by omega)]; rfl, ?_⟩
      simp only
      rw [preC_succ, hjn]
    simp only
    rw [wrapI (by omega) (by omega)]
    omega
  have hc1 := of_decide_eq_false hc1
  refine WP_exit ?_
  rw [hnA] at hc1
  have hin : i = nA b k := by omega
  exact ⟨.t [], by kernel_rfl, fun n1 w' h => ⟨⟨_, rfl⟩, n1, G, preC b k but i, fun id hid => h.ini id hid, .inl ⟨by unfold coursesF; rw [hin], (h.back hh.ini hh.inx).two (by kernel_rfl) (by kernel_rfl) rfl 20 hh.inx (by omega) (by omega)⟩⟩⟩
def encM (g : Nat) : List Value := [.map (some g)]
abbrev moC (b : Book) (maps : List Nat) (FX : World → Prop) (GX : Nat → Prop) : List (Nat × HE) := [(3, .box 34 (bookA b)), (4, .box 118 (bookK b)), (5, .box 51 [.ref 2]), (6, .box 150 [.ref 7]), (8, .sl .own 151 1 maps encM 0), (10, .jf FX GX)]
abbrev hpO (b : Book) (but : List Int) (maps : List Nat) (FX : World → Prop) (GX : Nat → Prop) : List (Nat × HE) := moC b maps FX GX ++ roC b but maps
theorem courses_ok {cx : Cx} {s s1 : AS} {L : List (Nat × HE)} {b : Book} {k : Nat} (h1 : s.hp = L) (h2 : s.nx = 14)
  (h3 : s1.hp = (17, .clo 106 [] [.s (.p 14 0), .s (.p 15 0), .s (.p 16 0)]) :: (16, .box 51 [.ref 2]) :: (15, .box 3 [ai k]) :: (14, .box 118 (bookK b)) :: L) (h4 : s1.nx = 18) :
  CallOk Tryd.prog cx s 97 [.g (bookK b), .s (ai k), .s (.ref 2)] (.s (.ref 17)) s1 := by
 intro n w hh
 have hh2 : HSat ⟨cx.w0, cx.ok, n, 14, true⟩ n ⟨8, env0 0 [.g (bookK b), .s (ai k), .s (.ref 2)], L, 14, []⟩ w :=
  (HSat.top (b := true) hh).of_same (s2 := ⟨8, env0 0 [.g (bookK b), .s (ai k), .s (.ref 2)], L, 14, []⟩) h1.symm h2.symm |> fun h => by rw [h2] at h; exact h
 refine calls_of_WP (cx := ⟨cx.w0, cx.ok, n, 14, true⟩) (n := n) (vs := [.g (bookK b), .s (ai k), .s (.ref 2)]) (hp := L) (nx := 14) tt_ok Tryd.func97 rfl rfl rfl (by kernel_rfl) hh2 (vsOk (by kernel_rfl)) ?_
 refine WSA tt_ok ?_
 refine WSA tt_ok ?_
 refine WP_ret ?_
 exact ⟨.s (.ref 17), by kernel_rfl, fun n1 w' h => ⟨n1, fun id hid => h.ini id (by rw [← h2]; exact hid), rfl, ((h.of_same (s2 := s1) (by rw [h3]; kernel_rfl) (by rw [h4]; kernel_rfl)).back (fun id hid => hh.ini id hid) (by have := hh.inx; rw [h2] at this; exact this))⟩⟩
theorem mem_preC {b : Book} {k : Nat} {but : List Int} {m : Nat} {c : Int × Int} (h : c ∈ preC b k but m) : ∃ i j : Nat, i < m ∧ j < nS b k ∧ c = ((b.ships.getD k zShip).aw.lo + i, (b.ships.getD k zShip).sp.lo + j) ∧ okC b k but c = true := by
 unfold preC at h
 obtain ⟨i, hi, hc⟩ := List.mem_flatMap.1 h
 unfold rowC at hc
 obtain ⟨hc, ho⟩ := List.mem_filter.1 hc
 obtain ⟨j, hj, rfl⟩ := List.mem_map.1 hc
 exact ⟨i, j, List.mem_range.1 hi, List.mem_range.1 hj, rfl, ho⟩
theorem mem_courses {b : Book} {k : Nat} {but : List Int} (hv : Valid b) (hk : k < b.ships.length) {c : Int × Int} (h : c ∈ coursesF b k but) : (1 ≤ c.1 ∧ c.1 ≤ 120) ∧ (1 ≤ c.2 ∧ c.2 ≤ 12) := by
 obtain ⟨i, j, hi, hj, rfl, _⟩ := mem_preC h
 have := hv.ship hk
 unfold nA at hi
 unfold nS at hj
 simp only
 omega
theorem rowC_nodup (b : Book) (k : Nat) (but : List Int) (i j : Nat) : (rowC b k but i j).Nodup := by
 unfold rowC
 refine List.Nodup.sublist List.filter_sublist ?_
 rw [List.nodup_iff_pairwise_ne, List.pairwise_map]
 refine (List.nodup_iff_pairwise_ne.1 List.nodup_range).imp fun {x y} h e => h ?_
 have := congrArg (·.2) e
 simp only at this
 omega
theorem preC_nodup (b : Book) (k : Nat) (but : List Int) (m : Nat) : (preC b k but m).Nodup := by
 induction m with
 | zero => simp [preC]
 | succ m ih =>
  rw [preC_succ, List.nodup_append]
  refine ⟨ih, rowC_nodup b k but m _, fun x hx y hy e => ?_⟩
  subst e
  obtain ⟨i, j, hi, _, hc, _⟩ := mem_preC hx
  unfold rowC at hy
  obtain ⟨q, _, hq⟩ := List.mem_map.1 (List.mem_filter.1 hy).1
  rw [hc] at hq
  have := congrArg (·.1) hq
  simp only at this
  omega
theorem courses_nodup (b : Book) (k : Nat) (but : List Int) : (coursesF b k but).Nodup := preC_nodup b k but _
theorem new_course {b : Book} {k : Nat} {but : List Int} {pre : List (Int × Int)} {x : Int × Int} (h : pre ++ [x] <+: coursesF b k but) : ∀ c ∈ pre, c ≠ (x.1, x.2) := by
 have hn := List.Nodup.sublist h.sublist (courses_nodup b k but)
 rw [List.nodup_append] at hn
 exact fun c hc => hn.2.2 c hc x (by simp)
theorem wp_hp {cx : Cx} {n : Vn} {w : World} {s s2 : AS} (h : HSat cx n s w) (h1 : RenH (rnm []) s.hp s2.hp) (hi : inj s2.hp (rnm []) = true) (ho : heOks s2 s2.hp = true) (hm0 : cx.m0 ≤ s2.nx) : HSat cx n s2 w := h.ren [] h1 hi ho (fun _ _ => rfl) hm0
set_option maxHeartbeats 1000000 in
theorem opened1_calls (b : Book) (but : List Int) (hv : Valid b) : ∀ (r k : Nat) (maps : List Nat) (FX : World → Prop) (GX : Nat → Prop), k + r = b.ships.length → maps.length = k → ∀ (cx : Cx) (n : Vn) (w : World), cx.m0 ≤ 8 → HSat cx n ⟨0, [], hpO b but maps FX GX, 11, []⟩ w →
  Calls Tryd.prog 96 (([.s (ai k), .s (.p 3 0), .s (.p 4 0), .s (.p 5 0), .s (.p 6 0)] : List AV).map (AV.c n)).toArray w fun e w' => e = .returned (.tuple #[]) ∧ ∃ n' maps', (∀ id, id < 8 → n' id = n id) ∧ maps'.length = b.ships.length ∧ HSat cx n' ⟨0, [], hpO b but maps' FX GX, 11, []⟩ w' := by
 intro r
 induction r with
 | zero =>
  intro k maps FX GX hkr hlen cx n w hm hh
  have hh2 : HSat ⟨cx.w0, cx.ok, n, 8, true⟩ n ⟨35, env0 0 [.s (ai k), .s (.p 3 0), .s (.p 4 0), .s (.p 5 0), .s (.p 6 0)], hpO b but maps FX GX, 11, []⟩ w := ⟨hh.fr, fun _ _ => rfl, by show 8 ≤ 11; decide, hh.one, hh.ents, fun x hx => HE.ok_same (hh.oks x hx) rfl rfl, hh.sep, hh.lt, hh.ids⟩
  refine calls_of_WPM tt_ok Tryd.func96 rfl rfl rfl (by kernel_rfl) hh2 (vsOk (by kernel_rfl)) ?_
  refine WSA tt_ok ?_
  refine WP_seq (WSA tt_ok ?_)
  refine WP_cond ((k : Int) == (b.ships.length : Int)) (by kernel_rfl) (fun hc => ?_) (fun hc => absurd hc (by simp; omega))
  refine WP_ret ?_
  refine .inl ⟨.t [], by kernel_rfl, fun n1 w' h => ⟨rfl, n1, maps, fun id hid => h.ini id hid, by omega, ?_⟩⟩
  have h2 := wp_hp (s2 := ⟨0, [], hpO b but maps FX GX, 11, []⟩) h (by repeat (first | exact trivial | refine ⟨by kernel_rfl, ?_⟩)) (by kernel_rfl) (by kernel_rfl) (by show 8 ≤ 11; decide)
  exact HSat.back (cx := cx) (n := n) (m := 8) (b := true) h2 (fun id hid => hh.ini id hid) hm
 | succ r ih =>
  intro k maps FX GX hkr hlen cx n w hm hh
  have hk : k < b.ships.length := by omega
  have hsh := hv.ship hk
  have hh2 : HSat ⟨cx.w0, cx.ok, n, 8, true⟩ n ⟨35, env0 0 [.s (ai k), .s (.p 3 0), .s (.p 4 0), .s (.p 5 0), .s (.p 6 0)], hpO b but maps FX GX, 11, []⟩ w := ⟨hh.fr, fun _ _ => rfl, by show 8 ≤ 11; decide, hh.one, hh.ents, fun x hx => HE.ok_same (hh.oks x hx) rfl rfl, hh.sep, hh.lt, hh.ids⟩
  refine calls_of_WPM tt_ok Tryd.func96 rfl rfl rfl (by kernel_rfl) hh2 (vsOk (by kernel_rfl)) ?_
  refine WSA tt_ok ?_
  refine WP_seq (WSA tt_ok ?_)
  refine WP_cond ((k : Int) == (b.ships.length : Int)) (by kernel_rfl) (fun hc => absurd hc (by simp; omega)) (fun hc => ?_)
  refine WP_skip ?_
  refine WP_seq (WP_region (MKMg (κ := Int × Int) ekC (exC b k) (some 13) (by kernel_rfl) (fun g => by kernel_rfl) (fun g => ?_)))
  refine WPA tt_ok ?_
  refine WP_le (s' := ⟨35, [(1, [], .s (.p 3 0)), (2, [], .s (.p 4 0)), (3, [], .s (.p 5 0)), (4, [], .s (.p 6 0)), (5, [], .s (.p 11 0)), (6, [], .s (.p 13 0))], (13, .box 151 [.v (.map (some g))]) :: (12, mapE g ([] : List (Int × Int)) ekC (exC b k)) :: (11, .box 3 [ai k]) :: hpO b but maps FX GX, 14, []⟩) (Le_sel (ts := [1, 2, 3, 4, 5, 6]) (ids := [13, 12, 11, 3, 4, 5, 6, 8, 10, 0, 1, 2, 7, 9]) (nx := 14) (by kernel_rfl)) ?_
  refine WP_seq (WP_seq (WP_region (WPO_run tt_ok 3 (by kernel_rfl) ?_)))
  refine CALLN 97 [.g (bookK b), .s (ai k), .s (.ref 2)] ⟨35, [(16, [], .s (.ref 2)), (15, [], .s (ai k)), (14, [], .g (bookK b)), (1, [], .s (.p 3 0)), (2, [], .s (.p 4 0)), (3, [], .s (.p 5 0)), (4, [], .s (.p 6 0)), (5, [], .s (.p 11 0)), (6, [], .s (.p 13 0))], (17, .clo 106 [] [.s (.p 14 0), .s (.p 15 0), .s (.p 16 0)]) :: (16, .box 51 [.ref 2]) :: (15, .box 3 [ai k]) :: (14, .box 118 (bookK b)) :: (13, .box 151 [.v (.map (some g))]) :: (12, mapE g ([] : List (Int × Int)) ekC (exC b k)) :: (11, .box 3 [ai k]) :: hpO b but maps FX GX, 18, []⟩ (.s (.ref 17)) (by kernel_rfl) (goes_of (by kernel_rfl)) (by kernel_rfl) (by kernel_rfl)
   (more_ext 4 (by kernel_rfl) (by kernel_rfl) (by kernel_rfl)) ⟨by kernel_rfl, by kernel_rfl, by kernel_rfl⟩ (courses_ok (L := (13, .box 151 [.v (.map (some g))]) :: (12, mapE g ([] : List (Int × Int)) ekC (exC b k)) :: (11, .box 3 [ai k]) :: hpO b but maps FX GX) (by kernel_rfl) (by kernel_rfl) (by kernel_rfl) (by kernel_rfl)) ?_
  refine WPO_end (by kernel_rfl) ?_
  refine WP_block (WP_range tt_ok rfl (coursesF b k but) encC (fun c => [.g [ai c.1, ai c.2]]) [1, 2, 3, 4, 5, 6] [(1, [], .s (.p 3 0)), (2, [], .s (.p 4 0)), (3, [], .s (.p 5 0)), (4, [], .s (.p 6 0)), (5, [], .s (.p 11 0)), (6, [], .s (.p 13 0))] 17 106 [.s (.p 14 0), .s (.p 15 0), .s (.p 16 0)]
   (fun pre => (12, mapE g pre ekC (exC b k)) :: (13, .box 151 [.v (.map (some g))]) :: (11, .box 3 [ai k]) :: moC b maps FX GX) (fun _ _ => none) (itC b k) (roC b but maps) (by kernel_rfl) (by kernel_rfl) (goes_of (by kernel_rfl)) (by kernel_rfl)
   (by repeat (first | exact trivial | refine ⟨by kernel_rfl, ?_⟩)) (by kernel_rfl)
   (fun pre => by kernel_rfl) (fun c pre Mr h => by cases h) (by kernel_rfl) (fun x n => rfl) (fun x => rfl) (fun x v hv => by rw [List.mem_singleton.1 hv]; kernel_rfl) (fun v hv => by simp at hv; rcases hv with rfl | rfl | rfl <;> kernel_rfl)
   (courses_iter b k but maps hk hv) ?round ?done (fun D c pre Mr h => by cases h))
  case round =>
   intro pre x hpre w0 ok n0 L D FL FB hn0
   have hx := mem_courses hv hk (hpre.subset (List.mem_append_right _ (List.mem_singleton.2 rfl)))
   refine ⟨⟨35, [(18, [], .g [ai x.1, ai x.2]), (1, [], .s (.p 3 0)), (2, [], .s (.p 4 0)), (3, [], .s (.p 5 0)), (4, [], .s (.p 6 0)), (5, [], .s (.p 11 0)), (6, [], .s (.p 13 0))], (18, eL L FL) :: (19, eD D) :: (((12, mapE g pre ekC (exC b k)) :: (13, .box 151 [.v (.map (some g))]) :: (11, .box 3 [ai k]) :: moC b maps FX GX) ++ roC b but maps), 20, []⟩, by kernel_rfl, ?_⟩
   refine WRA tt_ok ?_
   refine ⟨by kernel_rfl, ?_⟩
   refine WP_block ?_
   refine WP_drawH [12] (by kernel_rfl) (by kernel_rfl) ?_
   refine H_rn tt_ok [0, 1, 2, 3, 4] ?_
   refine H_stp 5 fun hfz cx' hx1 hx2 => ?_
   refine CAL 98 [.g (bookK b), .s (ai k), .g [ai x.1, ai x.2]] (.g (arrB 201 (nearF b k x.1 x.2))) [] (fun _ n w h => by rw [arrB_c]; exact nears_calls (n 0) (n 1) (n 8) b k x.1 x.2 w (HSat_toBook h (by kernel_rfl) (by kernel_rfl)) (h.one 8) hk hv (by omega) (by omega)) ?_
   refine WPO_end (by kernel_rfl) ⟨rfl, hfz.fnds [20, 18, 19, 13, 11, 3, 4, 5, 6, 8, 10, 0, 1, 2, 7, 9] (by kernel_rfl) (by repeat (first | exact trivial | refine ⟨by kernel_rfl, ?_⟩)) (by kernel_rfl), ?_⟩
   refine H_stp 6 fun hfz cx' hx1 hx2 => ?_
   refine MUPg tt_ok pre ekC (exC b k) x 12 g 155 (.g [ai x.1, ai x.2]) (.g (arrB 201 (nearF b k x.1 x.2))) (by kernel_rfl) (by kernel_rfl) (fun n => ⟨rfl, arrB_c _ _ _⟩) (fun w => check_pair (by kernel_rfl) x.1 x.2 w) (fun w => find_pair_none (by kernel_rfl) x.1 x.2 (fun c => c) ekC (exC b k) (fun c => rfl) w pre (new_course hpre)) ?_
   refine WPO_end (by kernel_rfl) ⟨rfl, hfz.fnds [20, 18, 19, 13, 11, 3, 4, 5, 6, 8, 10, 0, 1, 2, 7, 9] (by kernel_rfl) (by repeat (first | exact trivial | refine ⟨by kernel_rfl, ?_⟩)) (by kernel_rfl), ?_⟩
   refine H_done (by kernel_rfl) ?_
   exact Le_sel (ts := []) (ids := [18, 19, 12, 13, 11, 3, 4, 5, 6, 8, 10, 0, 1, 2, 7, 9]) (nx := 20) (by kernel_rfl)
  case done =>
   intro D
   refine WSR tt_ok 3 ?_
   refine LIT tt_ok (by kernel_rfl) ?_
   refine APP tt_ok (.s (.ref 8)) (.s (.ref 20)) 116 151 (some 29) 1 maps [g] encM 0 (by kernel_rfl) (by kernel_rfl) (by kernel_rfl) (by kernel_rfl) (.inr (.inl ⟨8, rfl, by kernel_rfl⟩)) (.inl ⟨20, 1, [.v (.map (some g))], rfl, by kernel_rfl, rfl, fun n => rfl⟩) (by simp) (fun y => rfl) (fun y v hv => by rw [List.mem_singleton.1 hv]; rfl) (fun i hi => ?room) ?_
   case room =>
    have h8 : (tyL tt 151).map (·.bytes) = some 8 := by kernel_rfl
    rw [hi] at h8
    simp only [Option.map_some, Option.some.injEq] at h8
    have := hv.nships
    rw [h8, List.length_singleton]
    omega
   refine WPA tt_ok ?_
   refine WP_le (s' := ⟨35, [(4, [], .s (.p 6 0)), (5, [], .s (.p 11 0))], [(12, mapE g (coursesF b k but) ekC (exC b k)), (21, .sl .own 151 1 (maps ++ [g]) encM 0), (11, .box 3 [ai k]), (3, .box 34 (bookA b)), (4, .box 118 [.ref 0, ai b.hear.lo, ai b.hear.hi, ai b.br, ai b.cr, ai b.sl, .ref 1, .ref 21]), (5, .box 51 [.ref 2]), (6, .box 150 [.ref 7]), (10, .jf FX GX), (19, eD D)] ++ roC b but maps, 22, [D]⟩) (Le_sel (ts := [4, 5]) (ids := [12, 21, 11, 3, 4, 5, 6, 10, 19, 0, 1, 2, 7, 9]) (nx := 22) (by kernel_rfl)) ?_
   refine WP_fact (apart_of (i := 19) (j := 10) (F := fun w => w.heap[D]? = some (.deferred (some []))) (G := (· = D)) (F' := FX) (G' := GX) (by kernel_rfl) (by kernel_rfl) (by kernel_rfl)) (fun hD => ?_)
   refine WP_le (Le_freeze (id := 12) (F := fun w => w.heap[g]? = some (.map (ents (coursesF b k but) ekC (exC b k)) (coursesF b k but).length)) (G := (· = g)) (by kernel_rfl)) ?_
   refine WP_le (Le_facts (i := 12) (j := 9) (F := fun w => w.heap[g]? = some (.map (ents (coursesF b k but) ekC (exC b k)) (coursesF b k but).length)) (G := (· = g)) (F' := MapsAt b but maps) (G' := (· ∈ maps)) (by kernel_rfl) (by kernel_rfl) (by kernel_rfl) (MapsAt b but (maps ++ [g])) (· ∈ maps ++ [g]) (fun w h1 h2 q hq => ?mapF) (fun q hq => ?mapG) (fun w1 w2 h hw => h.stab hw)) ?_
   case mapF =>
    by_cases e : q < maps.length
    ·rw [List.getElem_append_left e]; exact h2 q e
    simp only [List.length_append, List.length_singleton] at hq
    obtain rfl : q = k := by omega
    rw [List.getElem_append_right (by omega)]
    simpa [hlen] using h1
   case mapG =>
    rcases List.mem_append.1 hq with h | h
    ·exact .inr h
    exact .inl (List.mem_singleton.1 h)
   refine WP_le (Le_jAnd (i := 19) (j := 10) (F := fun w => w.heap[D]? = some (.deferred (some []))) (G := (· = D)) (F' := FX) (G' := GX) (by kernel_rfl) (by kernel_rfl) (by kernel_rfl)) ?_
   refine WP_le (s' := ⟨35, [(4, [], .s (.p 6 0)), (5, [], .s (.p 11 0))], hpO b but (maps ++ [g]) (fun w => w.heap[D]? = some (.deferred (some [])) ∧ FX w) (fun g => g = D ∨ GX g) ++ [(11, .box 3 [ai k])], 12, [D]⟩) ?_ ?_
   ·exact Le_ren [(8, 21), (9, 22), (10, 23)] (by repeat (first | exact trivial | refine ⟨by kernel_rfl, ?_⟩)) ⟨by kernel_rfl, rfl, by kernel_rfl, by kernel_rfl, rfl, by kernel_rfl, trivial⟩ (by kernel_rfl) (by kernel_rfl) (rnm_id (m := 8) (by kernel_rfl)) (by show 8 ≤ 12; decide) (by kernel_rfl) (by kernel_rfl)
   refine WP_region (WPO_run tt_ok 3 (by kernel_rfl) ?_)
   refine CALLE (σ := { m : List Nat // m.length = b.ships.length }) 96 [.s (ai (IntKind.i64.wrap ((k : Int) + 1))), .s (.p 3 0), .s (.p 4 0), .s (.p 5 0), .s (.p 6 0)] (fun m => ⟨35, [], hpO b but m.1 (fun w => w.heap[D]? = some (.deferred (some [])) ∧ FX w) (fun g => g = D ∨ GX g), 11, [D]⟩) (by kernel_rfl) (goes_of (by kernel_rfl)) (fun m => ⟨rfl, by kernel_rfl, by kernel_rfl⟩) (fun n w h => ?call) (fun m => ?_)
   case call =>
    rw [wrapI (by have := hv.nships; omega) (by have := hv.nships; omega)]
    have h2 := wp_hp (s2 := ⟨0, [], hpO b but (maps ++ [g]) (fun w => w.heap[D]? = some (.deferred (some [])) ∧ FX w) (fun g => g = D ∨ GX g), 11, []⟩) h (by repeat (first | exact trivial | refine ⟨by kernel_rfl, ?_⟩)) (by kernel_rfl) (by kernel_rfl) (by show 8 ≤ 11; decide)
    have := ih (k + 1) (maps ++ [g]) (fun w => w.heap[D]? = some (.deferred (some [])) ∧ FX w) (fun g => g = D ∨ GX g) (by omega) (by simp [hlen]) _ n w (by show 8 ≤ 8; decide) h2
    exact this.mono fun e w' ⟨he, n', m, _, hml, hm'⟩ => ⟨⟨m, hml⟩, n', ⟨_, he⟩, hm'.slots⟩
   refine WPO_le (Le_jOut (j := 10) (by kernel_rfl) hD) ?_
   refine WPO_end (by kernel_rfl) ?_
   refine .inr ⟨.t [], D, 12, by kernel_rfl, by kernel_rfl, by kernel_rfl, fun n1 w' h => ⟨rfl, fun id => n1 (rnm [(10, 11)] id), m.1, fun id hid => ?_, m.2, ?_⟩⟩
   ·show n1 (rnm [(10, 11)] id) = n id
    rw [rnm_id (m := 8) (by kernel_rfl) id hid]; exact h.ini id hid
   have h2 := h.ren (s2 := ⟨0, [], hpO b but m.1 FX GX, 11, []⟩) [(10, 11)] (by repeat (first | exact trivial | refine ⟨by kernel_rfl, ?_⟩)) (by kernel_rfl) (by kernel_rfl) (rnm_id (m := 8) (by kernel_rfl)) (by show 8 ≤ 11; decide)
   exact HSat.back (cx := cx) (n := n) (m := 8) (b := true) h2 (fun id hid => hh.ini id hid) hm
structure CanAt (w : World) (cv : Value) (b : Book) (but : List Int) (maps : List Nat) : Prop where
 len : maps.length = b.ships.length
 reads : Reads w cv 1 maps encM 0
 at' : MapsAt b but maps w
def zeroBook : Array Value := #[.slice none 0 0, .int .i64 0, .int .i64 0, .int .i64 0, .int .i64 0, .int .i64 0, .slice none 0 0, .slice none 0 0]
abbrev zeroA : List AC := [.v (.slice none 0 0), ai 0, ai 0, ai 0, ai 0, ai 0, .v (.slice none 0 0), .v (.slice none 0 0)]
abbrev FXo (g : Nat) (w : World) : Prop := w.heap[g]? = some (.cells zeroBook 118 (0, 0))
theorem opened_calls (sv gv bv : Value) (b : Book) (but : List Int) (w : World) (hb : BookAt w sv gv b) (hbut : Reads w bv 1 but encI 0) (hv : Valid b) :
  Calls Tryd.prog 80 #[bookV sv gv b, bv] w fun e w' => ∃ cv maps, e = .returned (bookV2 sv gv cv b) ∧ Below w.heap.size w w' ∧ CanAt w' cv b but maps ∧ w'.ownsRow w.heap.size 151 1 cv maps.length (flat maps encM) := by
 refine calls_of_WP (cx := cx0 w (vn [sv, gv, bv]) 3) (n := vn [sv, gv, bv]) (vs := [.g (bookA b), .s (.ref 2)]) (hp := [(0, .sl .ro 103 5 b.ships encShip zShip), (1, .sl .ro 105 4 b.sights encSight zSight), (2, .sl .ro 3 1 but encI 0)]) (nx := 3) tt_ok Tryd.func80 rfl rfl rfl (by kernel_rfl)
  (HSat_args (vn_one (by simp [hb.ships.one, hb.sights.one, hbut.one])) (Nat.le_refl _) ⟨ro_in hb.ships, ro_in hb.sights, ro_in hbut, trivial⟩) (vsOk (by kernel_rfl)) ?_
 refine WSA tt_ok ?_
 refine WSA tt_ok ?_
 refine WSA tt_ok ?_
 refine WSA tt_ok ?_
 refine WP_le (s' := ⟨13, [(4, [], .s (.p 5 0)), (5, [], .s (.p 6 0)), (6, [], .s (.p 7 0))], [(8, .clo 96 [] [.s (.p 3 0), .s (.p 6 0), .s (.p 4 0), .s (.p 7 0)]), (7, .box 150 [.ref 8]), (6, .box 118 [.ref 0, ai b.hear.lo, ai b.hear.hi, ai b.br, ai b.cr, ai b.sl, .ref 1, .v (.slice none 0 0)]), (5, .box 118 zeroA), (4, .box 51 [.ref 2]), (3, .box 34 (bookA b)), (0, .sl .ro 103 5 b.ships encShip zShip), (1, .sl .ro 105 4 b.sights encSight zSight), (2, .sl .ro 3 1 but encI 0)], 9, []⟩) (Le_sel (ts := [4, 5, 6]) (ids := [8, 7, 6, 5, 4, 3, 0, 1, 2]) (nx := 9) (by kernel_rfl)) ?_
 refine WP_unbox (id := 5) (ty := 118) (cs := zeroA) (by kernel_rfl) zeroBook (fun n => rfl) (fun g => ?_)
 refine WP_le (Le_nil (id := 6) (j := 7) (ty := 118) (e := 151) (cs := [.ref 0, ai b.hear.lo, ai b.hear.hi, ai b.br, ai b.cr, ai b.sl, .ref 1, .v (.slice none 0 0)]) (by kernel_rfl) (by kernel_rfl) (sz := 1) encM 0 (fun _ => rfl) (by kernel_rfl)) ?_
 refine WP_le (Le_addpf (MapsAt b but []) (fun q => q ∈ ([] : List Nat)) (fun w q hq => (by simp at hq)) (fun g hg => (by simp at hg))) ?_
 refine WP_le (s' := ⟨13, [(4, [], .s (.v (.pointer (some ⟨g, 0, none⟩)))), (5, [], .s (.p 4 0)), (6, [], .s (.p 6 0))], hpO b but [] (FXo g) (· = g), 11, []⟩) ?_ ?_
 ·exact Le_ren [(4, 6), (5, 4), (6, 7), (7, 8), (8, 9), (9, 10), (10, 5)] (by repeat (first | exact trivial | refine ⟨by kernel_rfl, ?_⟩)) ⟨by kernel_rfl, rfl, by kernel_rfl, by kernel_rfl, rfl, by kernel_rfl, by kernel_rfl, rfl, by kernel_rfl, trivial⟩ (by kernel_rfl) (by kernel_rfl) (rnm_id (m := 3) (by kernel_rfl)) (by show 3 ≤ 11; decide) (by kernel_rfl) (by kernel_rfl)
 refine WSR tt_ok 1 ?_
 refine CALLF (σ := { m : List Nat // m.length = b.ships.length }) 96 [.s (ai 0), .s (.p 3 0), .s (.p 4 0), .s (.p 5 0), .s (.p 6 0)] 8 11 (fun m => ⟨13, [(4, [], .s (.v (.pointer (some ⟨g, 0, none⟩)))), (5, [], .s (.p 4 0))], hpO b but m.1 (FXo g) (· = g), 11, []⟩) (by kernel_rfl) (goes_of (by kernel_rfl)) (fun m => rfl) (fun m => ⟨⟨by kernel_rfl, rfl, by kernel_rfl, by kernel_rfl, rfl, by kernel_rfl, trivial⟩, by kernel_rfl, by kernel_rfl, by kernel_rfl⟩) (fun n w1 h => ?call) (fun m => ?_)
 case call =>
  have h2 := wp_hp (s2 := ⟨0, [], hpO b but [] (FXo g) (· = g), 11, []⟩) h (by repeat (first | exact trivial | refine ⟨by kernel_rfl, ?_⟩)) (by kernel_rfl) (by kernel_rfl) (by show 3 ≤ 11; decide)
  have := opened1_calls b but hv b.ships.length 0 [] (FXo g) (· = g) (by omega) rfl _ n w1 (by show 3 ≤ 8; decide) h2
  exact this.mono fun e w' ⟨he, n', m, hag, hml, hm'⟩ => ⟨⟨m, hml⟩, n', ⟨_, he⟩, hag, hm'.slots⟩
 refine WPO_end (by kernel_rfl) ?_
 refine WP_le (s' := ⟨13, [(4, [], .s (.p 11 0)), (5, [], .s (.p 4 0))], (11, .box 118 zeroA) :: rem (hpO b but m.1 (FXo g) (· = g)) 10, 12, []⟩) ?_ ?_
 ·refine Le_rebox (id := 10) (g := g) (ty := 118) (cs := zeroA) (vs := zeroBook) (by kernel_rfl) (fun n => rfl) (fun s0 c hc => by simp at hc; rcases hc with rfl | rfl | rfl | rfl | rfl | rfl | rfl | rfl <;> trivial) [] _ (fun x hx => ?_)
  rcases List.mem_cons.1 hx with rfl | hx
  ·exact .inr ⟨0, by kernel_rfl, rfl⟩
  rw [List.mem_singleton.1 hx]; exact .inl ⟨by kernel_rfl, by kernel_rfl⟩
 refine WSA tt_ok ?_
 refine WP_ret ?_
 refine ⟨.g (bookK b), by kernel_rfl, fun n1 w' h => ⟨n1 8, m.1, ?_, h.bel, ⟨m.2, ?_, ?_⟩, own_of (z := 0) (id := 8) h (by kernel_rfl)⟩⟩
 ·have h0 : n1 0 = sv := h.ini 0 (by show 0 < 3; decide)
  have h1 : n1 1 = gv := h.ini 1 (by show 1 < 3; decide)
  show Ending.returned (.agg #[n1 0, iv b.hear.lo, iv b.hear.hi, iv b.br, iv b.cr, iv b.sl, n1 1, n1 8]) = _
  rw [h0, h1]; rfl
 ·exact h.reads (id := 8) (kd := .own) (e := 151) (by kernel_rfl)
 exact (h.ents (9, pfC b but m.1) (fnd_mem (by kernel_rfl))).1
theorem isTrue1_calls (g : Nat) (es : Array MapEntry) (clk : Nat) (w : World) (hm : w.heap[g]? = some (.map es clk)) : Calls Tryd.prog 100 #[.map (some g)] w fun e w' => e = .returned (.bool ((es.size : Int) == 0)) ∧ Below w.heap.size w w' := by
 refine calls_of_WP (cx := cx0 w Eng.n0 0) (n := Eng.n0) (vs := [.s (.v (.map (some g)))]) (hp := [(0, .pf (fun w => w.heap[g]? = some (.map es clk)) (· = g))]) (nx := 1) tt_ok Tryd.func100 rfl rfl rfl (by kernel_rfl)
  (HSat_args (fun _ => rfl) (by decide) ⟨⟨⟨hm, fun w1 w2 h hw => (hw g rfl).trans h, fun q hq => by cases hq; exact (Array.getElem?_eq_some_iff.1 hm).1⟩, Nat.zero_lt_one⟩, trivial⟩) (vsOk (by kernel_rfl)) ?_
 refine WSA tt_ok ?_
 refine WSR tt_ok 1 ?_
 refine MLEN tt_ok (.s (.v (.map (some g)))) [] es.size (by kernel_rfl) (fun _ n w h => ⟨g, es, clk, rfl, (h.ents (0, .pf (fun w => w.heap[g]? = some (.map es clk)) (· = g)) (fnd_mem (by kernel_rfl))).1, rfl⟩) (by kernel_rfl) ?_
 refine WPA tt_ok ?_
 refine WP_ret ?_
 exact ⟨.s (.bool ((es.size : Int) == 0)), by kernel_rfl, fun n w' h => ⟨rfl, h.bel⟩⟩
theorem MapsAt.get {b : Book} {but : List Int} {maps : List Nat} {w : World} (h : MapsAt b but maps w) {q : Nat} (hq : q < maps.length) : w.heap[maps.getD q 0]? = some (.map (ents (coursesF b q but) ekC (exC b q)) (coursesF b q but).length) := by
 rw [List.getD_eq_getElem?_getD, List.getElem?_eq_getElem hq]
 exact h q hq
theorem ents_size {κ : Type} (L : List κ) (ek ex : κ → Value) : (ents L ek ex).size = L.length := by simp [ents]
def noneL (b : Book) (but : List Int) (m : Nat) : List Bool := (List.range m).map fun q => decide (coursesF b q but = [])
theorem HSat_can {w : World} {cv : Value} {b : Book} {but : List Int} {maps : List Nat} (h : CanAt w cv b but maps) {nt : Nat} {e : List (Nat × List (Nat × Bool) × AV)} : HSat (cx0 w (vn [cv]) 1) (vn [cv]) ⟨nt, e, [(0, .sl .ro 151 1 maps encM 0), (1, pfC b but maps)], 2, []⟩ w :=
 HSat_args (vn_one (by simp [h.reads.one])) (by decide) ⟨ro_in h.reads, ⟨⟨h.at', fun w1 w2 h1 hw => h1.stab hw, fun g hg => by
  obtain ⟨q, hq, rfl⟩ := List.mem_iff_getElem.1 hg
  exact (Array.getElem?_eq_some_iff.1 (h.at' q hq)).1⟩, (Nat.le_of_ble_eq_true rfl)⟩, trivial⟩
theorem indexFunc_calls (cv : Value) (b : Book) (but : List Int) (maps : List Nat) (w : World) (h : CanAt w cv b but maps) : Calls Tryd.prog 111 #[cv, .func (.func 100) #[] #[]] w fun e w' => e = .returned (iv (idxB (noneL b but maps.length) true)) ∧ Below w.heap.size w w' := by
 refine calls_of_WP (cx := cx0 w (vn [cv]) 1) (n := vn [cv]) (vs := [.s (.ref 0), .s (.v (.func (.func 100) #[] #[]))]) (hp := [(0, .sl .ro 151 1 maps encM 0), (1, pfC b but maps)]) (nx := 2) tt_ok Tryd.func111 rfl rfl rfl (by kernel_rfl) (HSat_can h) (vsOk (by kernel_rfl)) ?_
 refine WSA tt_ok ?_
 refine WP_seq (WSA tt_ok ?_)
 refine WP_block (WP_loop (σ := Int) (fun zz => ⟨19, [(8, [], .s (.int .i64 zz)), (7, [], .s (.int .i64 (maps.length : Int))), (0, [], .s (.ref 0)), (1, [], .s (.v (.func (.func 100) #[] #[])))], [(0, .sl .ro 151 1 maps encM 0), (1, pfC b but maps)], 2, []⟩) (fun zz => ∃ k : Nat, k ≤ maps.length ∧ zz = k ∧ ∀ j, j < k → coursesF b j but ≠ []) (fun zz => maps.length - zz.toNat) 0 (⟨0, by omega, rfl, fun j h => by omega⟩) (Le_sel (ts := [8, 7, 0, 1]) (ids := [0, 1]) (nx := 2) (by kernel_rfl)) ?_)
 rintro i hinv
 obtain ⟨k, hk, hi, hno⟩ := hinv
 subst hi
 have hl := Reads.len h.reads
 refine WSA tt_ok ?_
 refine WP_seq (WP_cond (decide ((k : Int) < (maps.length : Int))) (by kernel_rfl) (fun hc1 => ?_) (fun hc1 => ?_))
 ·have hc1 := of_decide_eq_true hc1
  refine WP_skip ?_
  refine WP_seq (WP_block ?_)
  refine WSA tt_ok ?_
  refine WSR tt_ok 3 ?_
  refine IX tt_ok (k : Int) maps.length [] (by kernel_rfl) (fun hG => ⟨by omega, by omega⟩) ?_
  refine WPO_run tt_ok 1 (by kernel_rfl) ?_
  refine CAL 100 [.s (.v (.map (some (maps.getD k 0))))] (.s (.bool (((ents (coursesF b k but) ekC (exC b k)).size : Int) == 0))) [] (fun _ n w h1 => isTrue1_calls _ _ _ w ((h1.ents (1, pfC b but maps) (fnd_mem (by kernel_rfl))).1.get (by omega))) ?_
  refine WPO_nil ?_
  refine WP_cond (((ents (coursesF b k but) ekC (exC b k)).size : Int) == 0) (by kernel_rfl) (fun hc2 => ?_) (fun hc2 => ?_)
  ·refine WSA tt_ok ?_
   refine WP_ret ?_
   exact ⟨.s (ai k), by kernel_rfl, fun n w' h => ⟨by rw [idxB_some (l := noneL b but maps.length) (k := k) (by simp [noneL]; omega) (fun j hj => by simp [noneL]; exact hno j hj) (by simp only [noneL, List.getElem_map, List.getElem_range]; rw [ents_size] at hc2; have := eq_of_beq hc2; exact (decide_eq_true (List.eq_nil_of_length_eq_zero (by omega))).symm)]; rfl, h.bel⟩⟩
  refine WP_skip ?_
  refine WRA tt_ok ?_
  refine ⟨(IntKind.i64.wrap ((k : Int) + 1)), ?_, ?_, Le_sel (ts := [8, 7, 0, 1]) (ids := [0, 1]) (nx := 2) (by kernel_rfl)⟩
  ·refine ⟨k + 1, by omega, by rw [wrapI (by omega) (by omega)]; rfl, fun j hj => ?_⟩
   by_cases e : j = k
   ·subst e; intro he; rw [ents_size, he] at hc2; exact absurd hc2 (by decide)
   exact hno j (by omega)
  rw [wrapI (by omega) (by omega)]
  omega
 have hc1 := of_decide_eq_false hc1
 refine WP_exit ?_
 obtain rfl : k = maps.length := by omega
 refine WSA tt_ok ?_
 refine WP_ret ?_
 exact ⟨.s (ai (-1)), by kernel_rfl, fun n w' h => ⟨by rw [idxB_none (l := noneL b but maps.length) fun j hj => by simp [noneL] at hj ⊢; exact hno j hj]; rfl, h.bel⟩⟩
theorem HSat_toCan {cx : Cx} {n : Vn} {s : AS} {w : World} {b : Book} {but : List Int} {maps : List Nat} (i j : Nat) (hl : maps.length = b.ships.length) (h : HSat cx n s w) (h0 : fnd s.hp i = some (.sl .ro 151 1 maps encM 0)) (h1 : fnd s.hp j = some (pfC b but maps)) : CanAt w (n i) b but maps := ⟨hl, h.reads h0, (h.ents _ (fnd_mem h1)).1⟩
theorem containsFunc_calls (cv : Value) (b : Book) (but : List Int) (maps : List Nat) (w : World) (h : CanAt w cv b but maps) : Calls Tryd.prog 99 #[cv, .func (.func 100) #[] #[]] w fun e w' => e = .returned (.bool (decide (idxB (noneL b but maps.length) true ≥ 0))) ∧ Below w.heap.size w w' := by
 refine calls_of_WP (cx := cx0 w (vn [cv]) 1) (n := vn [cv]) (vs := [.s (.ref 0), .s (.v (.func (.func 100) #[] #[]))]) (hp := [(0, .sl .ro 151 1 maps encM 0), (1, pfC b but maps)]) (nx := 2) tt_ok Tryd.func99 rfl rfl rfl (by kernel_rfl) (HSat_can h) (vsOk (by kernel_rfl)) ?_
 refine WSA tt_ok ?_
 refine WSR tt_ok 2 ?_
 refine CAL 111 [.s (.ref 0), .s (.v (.func (.func 100) #[] #[]))] (.s (.int .i64 (idxB (noneL b but maps.length) true))) [] (fun _ n w h1 => indexFunc_calls (n 0) b but maps w (HSat_toCan 0 1 h.len h1 (by kernel_rfl) (by kernel_rfl))) ?_
 refine WPA tt_ok ?_
 refine WP_ret ?_
 exact ⟨.s (.bool (decide ((idxB (noneL b but maps.length) true) ≥ 0))), by kernel_rfl, fun n w' h => ⟨rfl, h.bel⟩⟩
def isTrueF (b : Book) (but : List Int) : Bool := (List.range b.ships.length).all fun q => decide (coursesF b q but ≠ [])
theorem isTrue_eq {b : Book} {but : List Int} {m : Nat} (hm : m = b.ships.length) : (!decide (idxB (noneL b but m) true ≥ 0)) = isTrueF b but := by
 subst hm
 rw [Bool.eq_iff_iff]
 simp only [ge_iff_le, idxB_nonneg, Bool.not_eq_true', decide_eq_false_iff_not, isTrueF, List.all_eq_true, List.mem_range, decide_eq_true_eq, noneL, List.mem_map]
 constructor
 ·intro h q hq he; exact h ⟨q, hq, he⟩
 rintro h ⟨q, hq, he⟩; exact h q hq (he)
theorem HSat_bookM {w : World} {sv gv cv : Value} {b : Book} {but : List Int} {maps : List Nat} (hb : BookAt w sv gv b) (h : CanAt w cv b but maps) {nt : Nat} {e : List (Nat × List (Nat × Bool) × AV)} : HSat (cx0 w (vn [sv, gv, cv]) 3) (vn [sv, gv, cv]) ⟨nt, e, hpB b ++ [(2, .sl .ro 151 1 maps encM 0), (3, pfC b but maps)], 4, []⟩ w :=
 HSat_args (vn_one (by simp [hb.ships.one, hb.sights.one, h.reads.one])) (by decide) ⟨ro_in hb.ships, ro_in hb.sights, ro_in h.reads, ⟨⟨h.at', fun w1 w2 h1 hw => h1.stab hw, fun g hg => by
  obtain ⟨q, hq, rfl⟩ := List.mem_iff_getElem.1 hg
  exact (Array.getElem?_eq_some_iff.1 (h.at' q hq)).1⟩, (Nat.le_of_ble_eq_true rfl)⟩, trivial⟩
theorem isTrue_calls (sv gv cv : Value) (b : Book) (but : List Int) (maps : List Nat) (w : World) (hb : BookAt w sv gv b) (h : CanAt w cv b but maps) : Calls Tryd.prog 81 #[bookV2 sv gv cv b] w fun e w' => e = .returned (.bool (isTrueF b but)) ∧ Below w.heap.size w w' := by
 refine calls_of_WP (cx := cx0 w (vn [sv, gv, cv]) 3) (n := vn [sv, gv, cv]) (vs := [.g (bookC b)]) (hp := hpB b ++ [(2, .sl .ro 151 1 maps encM 0), (3, pfC b but maps)]) (nx := 4) tt_ok Tryd.func81 rfl rfl rfl (by kernel_rfl) (HSat_bookM hb h) (vsOk (by kernel_rfl)) ?_
 refine WSA tt_ok ?_
 refine WSR tt_ok 2 ?_
 refine CAL 99 [.s (.ref 2), .s (.v (.func (.func 100) #[] #[]))] (.s (.bool (decide (idxB (noneL b but maps.length) true ≥ 0)))) [] (fun _ n w h1 => containsFunc_calls (n 2) b but maps w (HSat_toCan 2 3 h.len h1 (by kernel_rfl) (by kernel_rfl))) ?_
 refine WPA tt_ok ?_
 refine WP_ret ?_
 exact ⟨.s (.bool (!(decide (idxB (noneL b but maps.length) true ≥ 0)))), by kernel_rfl, fun n w' h2 => ⟨by rw [isTrue_eq h.len]; rfl, h2.bel⟩⟩
abbrev pkC (c : Int × Int) : Bool × List AC := (true, [ai c.1, ai c.2])
abbrev pxC (b : Book) (k : Nat) (c : Int × Int) : Bool × List AC := (true, arrB 201 (nearF b k c.1 c.2))
def someF (b : Book) (but : List Int) (k first many : Nat) : Bool := (coursesF b k but).any fun c => hitF (nearF b k c.1 c.2) first many
def eachF (b : Book) (but : List Int) (k first many : Nat) : Bool := (coursesF b k but).all fun c => hitF (nearF b k c.1 c.2) first many
theorem some_no {b : Book} {but : List Int} {k first many : Nat} {sn : List Nat} (h : ∀ j ∈ sn, ∀ y, (coursesF b k but)[j]? = some y → hitF (nearF b k y.1 y.2) first many = false) (ha : ∀ i, i < (coursesF b k but).length → i ∈ sn) : someF b but k first many = false := by
 simp only [someF, List.any_eq_false]
 intro x hx
 obtain ⟨i, hi, rfl⟩ := List.mem_iff_getElem.1 hx
 rw [h i (ha i hi) _ (List.getElem?_eq_getElem hi)]
 decide
theorem some_yes {b : Book} {but : List Int} {k first many i : Nat} {x : Int × Int} (hx : (coursesF b k but)[i]? = some x) (h : hitF (nearF b k x.1 x.2) first many = true) : someF b but k first many = true := by
 simp only [someF, List.any_eq_true]
 exact ⟨x, List.mem_of_getElem? hx, h⟩
theorem each_yes {b : Book} {but : List Int} {k first many : Nat} {sn : List Nat} (h : ∀ j ∈ sn, ∀ y, (coursesF b k but)[j]? = some y → hitF (nearF b k y.1 y.2) first many = true) (ha : ∀ i, i < (coursesF b k but).length → i ∈ sn) : eachF b but k first many = true := by
 simp only [eachF, List.all_eq_true]
 intro x hx
 obtain ⟨i, hi, rfl⟩ := List.mem_iff_getElem.1 hx
 exact h i (ha i hi) _ (List.getElem?_eq_getElem hi)
theorem each_no {b : Book} {but : List Int} {k first many i : Nat} {x : Int × Int} (hx : (coursesF b k but)[i]? = some x) (h : (!hitF (nearF b k x.1 x.2) first many) = true) : eachF b but k first many = false := by
 rw [Bool.eq_false_iff]
 intro he
 simp only [eachF, List.all_eq_true] at he
 rw [he x (List.mem_of_getElem? hx)] at h
 cases h
theorem hit_callsA (n : Vn) (f : Nat → Bool) (first many : Nat) (w : World) (h1 : first + many ≤ 201) : Calls Tryd.prog 133 (([.g (arrB 201 f), .g [ai first, ai many]] : List AV).map (AV.c n)).toArray w fun e w' => e = .returned (.bool (hitF f first many)) ∧ Below w.heap.size w w' := by
 have := hit_calls f first many w h1
 rw [← arrB_c n] at this
 exact this
theorem some_calls (sv gv cv : Value) (b : Book) (but : List Int) (maps : List Nat) (k first many : Nat) (w : World) (hb : BookAt w sv gv b) (hm : CanAt w cv b but maps) (hk : k < b.ships.length) (h1 : first + many ≤ 201) : Calls Tryd.prog 142 #[bookV2 sv gv cv b, iv k, .agg #[iv first, iv many]] w fun e w' => e = .returned (.bool (someF b but k first many)) ∧ Below w.heap.size w w' := by
 refine calls_of_WP (cx := cx0 w (vn [sv, gv, cv]) 3) (n := vn [sv, gv, cv]) (vs := [.g (bookC b), .s (.int .i64 (k : Int)), .g [.int .i64 (first : Int), .int .i64 (many : Int)]]) (hp := hpB b ++ [(2, .sl .ro 151 1 maps encM 0), (3, pfC b but maps)]) (nx := 4) tt_ok Tryd.func142 rfl rfl rfl (by kernel_rfl) (HSat_bookM hb hm) (vsOk (by kernel_rfl)) ?_
 have hl := Reads.len hm.reads
 have hml := hm.len
 refine WSA tt_ok ?_
 refine WP_seq (WP_seq (WP_region (WPO_run tt_ok 3 (by kernel_rfl) ?_)))
 refine IX tt_ok (k : Int) maps.length [] (by kernel_rfl) (fun hG => ⟨by omega, by omega⟩) ?_
 refine WPO_run tt_ok 1 (by kernel_rfl) ?_
 refine RNG tt_ok (coursesF b k but) ekC (exC b k) (.s (.v (.map (some (maps.getD k 0))))) (maps.getD k 0) (some 14) (by kernel_rfl) (fun n w h => ⟨rfl, (h.ents (3, pfC b but maps) (fnd_mem (by kernel_rfl))).1.get (by omega)⟩) (by kernel_rfl) ?_
 refine WPO_nil ?_
 refine WP_block (WP_loop (σ := List Nat) (fun zz => ⟨22, [(14, [], .s (.ref 6)), (5, [], .s (.p 5 0))], [(6, .ob false (.mapIter (some (maps.getD k 0)) (coursesF b k but).length (zz : List Nat).toArray (coursesF b k but).length)), (5, .box 144 [.int .i64 (first : Int), .int .i64 (many : Int)]), (4, .box 118 (fwC (.ref 0) b [.ref 1, .ref 2])), (0, .sl .ro 103 5 b.ships encShip zShip), (1, .sl .ro 105 4 b.sights encSight zSight), (2, .sl .ro 151 1 maps encM 0), (3, pfC b but maps)], 7, []⟩) (fun zz => ∀ j ∈ zz, ∀ y, (coursesF b k but)[j]? = some y → hitF (nearF b k y.1 y.2) first many = false) (fun zz => left (coursesF b k but).length zz) ([]) (fun j hj => by cases hj) (Le_sel (ts := [14, 5]) (ids := [6, 5, 4, 0, 1, 2, 3]) (nx := 7) (by kernel_rfl)) ?_)
 rintro sn hinv
 refine WP_seq (WP_region (NXT (coursesF b k but) ekC (exC b k) pkC (pxC b k) 6 (maps.getD k 0) sn (some 15) (by kernel_rfl) (by kernel_rfl) (fun n w h => (h.ents (3, pfC b but maps) (fnd_mem (by kernel_rfl))).1.get (by omega)) (fun _ n => ⟨rfl, arrB_c _ _ _⟩) (fun _ _ => ⟨ints_ok _ _ _, arrB_ok _ _ _⟩) (by kernel_rfl) (fun hall5 => ?_) (fun _ _ => (by kernel_rfl)) (fun ei1 ex2 hx3 hn4 => ?_)))
 ·refine WPA tt_ok ?_
  refine WP_seq (WP_cond (false) (by kernel_rfl) (fun h => by cases h) (fun hc6 => ?_))
  refine WP_exit ?_
  refine WSA tt_ok ?_
  refine WP_ret ?_
  exact ⟨.s (.bool false), by kernel_rfl, fun n w' h => ⟨by rw [some_no hinv hall5]; rfl, h.bel⟩⟩
 refine WPA tt_ok ?_
 refine WP_seq (WP_cond (true) (by kernel_rfl) (fun hc7 => ?_) (fun h => by cases h))
 refine WP_skip ?_
 refine WP_block ?_
 refine WP_seq (WP_region (ENT (coursesF b k but) ekC (exC b k) pkC (pxC b k) 6 (maps.getD k 0) sn ei1 ex2 (some 17) (by kernel_rfl) (by kernel_rfl) (fun n w h => (h.ents (3, pfC b but maps) (fnd_mem (by kernel_rfl))).1.get (by omega)) hx3 (fun n => ⟨rfl, arrB_c _ _ _⟩) (⟨ints_ok _ _ _, arrB_ok _ _ _⟩) (by kernel_rfl) ?_))
 refine WPA tt_ok ?_
 refine WSR tt_ok 2 ?_
 refine CAL 133 [.g (arrB 201 (nearF b k ex2.1 ex2.2)), .g [.int .i64 (first : Int), .int .i64 (many : Int)]] (.s (.bool (hitF (nearF b k ex2.1 ex2.2) first many))) [] (fun _ n w h => hit_callsA n _ _ _ w h1) ?_
 refine WPO_nil ?_
 refine WP_cond (hitF (nearF b k ex2.1 ex2.2) first many) (by kernel_rfl) (fun hc8 => ?_) (fun hc8 => ?_)
 ·refine WSA tt_ok ?_
  refine WP_ret ?_
  exact ⟨.s (.bool true), by kernel_rfl, fun n w' h => ⟨by rw [some_yes hx3 hc8]; rfl, h.bel⟩⟩
 refine WP_skip ?_
 refine ⟨(sn ++ [ei1]), ?_, ?_, Le_sel (ts := [14, 5]) (ids := [6, 5, 4, 0, 1, 2, 3]) (nx := 7) (by kernel_rfl)⟩
 ·refine fun j hj y hy => (List.mem_append.1 hj).elim (fun h => hinv j h y hy) (fun h => ?_)
  rw [List.mem_singleton.1 h, hx3] at hy
  cases hy
  simpa using hc8
 exact left_lt (List.getElem?_eq_some_iff.1 hx3).1 hn4
theorem each_calls (sv gv cv : Value) (b : Book) (but : List Int) (maps : List Nat) (k first many : Nat) (w : World) (hb : BookAt w sv gv b) (hm : CanAt w cv b but maps) (hk : k < b.ships.length) (h1 : first + many ≤ 201) : Calls Tryd.prog 143 #[bookV2 sv gv cv b, iv k, .agg #[iv first, iv many]] w fun e w' => e = .returned (.bool (eachF b but k first many)) ∧ Below w.heap.size w w' := by
 refine calls_of_WP (cx := cx0 w (vn [sv, gv, cv]) 3) (n := vn [sv, gv, cv]) (vs := [.g (bookC b), .s (.int .i64 (k : Int)), .g [.int .i64 (first : Int), .int .i64 (many : Int)]]) (hp := hpB b ++ [(2, .sl .ro 151 1 maps encM 0), (3, pfC b but maps)]) (nx := 4) tt_ok Tryd.func143 rfl rfl rfl (by kernel_rfl) (HSat_bookM hb hm) (vsOk (by kernel_rfl)) ?_
 have hl := Reads.len hm.reads
 have hml := hm.len
 refine WSA tt_ok ?_
 refine WP_seq (WP_seq (WP_region (WPO_run tt_ok 3 (by kernel_rfl) ?_)))
 refine IX tt_ok (k : Int) maps.length [] (by kernel_rfl) (fun hG => ⟨by omega, by omega⟩) ?_
 refine WPO_run tt_ok 1 (by kernel_rfl) ?_
 refine RNG tt_ok (coursesF b k but) ekC (exC b k) (.s (.v (.map (some (maps.getD k 0))))) (maps.getD k 0) (some 14) (by kernel_rfl) (fun n w h => ⟨rfl, (h.ents (3, pfC b but maps) (fnd_mem (by kernel_rfl))).1.get (by omega)⟩) (by kernel_rfl) ?_
 refine WPO_nil ?_
 refine WP_block (WP_loop (σ := List Nat) (fun zz => ⟨23, [(14, [], .s (.ref 6)), (5, [], .s (.p 5 0))], [(6, .ob false (.mapIter (some (maps.getD k 0)) (coursesF b k but).length (zz : List Nat).toArray (coursesF b k but).length)), (5, .box 144 [.int .i64 (first : Int), .int .i64 (many : Int)]), (4, .box 118 (fwC (.ref 0) b [.ref 1, .ref 2])), (0, .sl .ro 103 5 b.ships encShip zShip), (1, .sl .ro 105 4 b.sights encSight zSight), (2, .sl .ro 151 1 maps encM 0), (3, pfC b but maps)], 7, []⟩) (fun zz => ∀ j ∈ zz, ∀ y, (coursesF b k but)[j]? = some y → hitF (nearF b k y.1 y.2) first many = true) (fun zz => left (coursesF b k but).length zz) ([]) (fun j hj => by cases hj) (Le_sel (ts := [14, 5]) (ids := [6, 5, 4, 0, 1, 2, 3]) (nx := 7) (by kernel_rfl)) ?_)
 rintro sn hinv
 refine WP_seq (WP_region (NXT (coursesF b k but) ekC (exC b k) pkC (pxC b k) 6 (maps.getD k 0) sn (some 15) (by kernel_rfl) (by kernel_rfl) (fun n w h => (h.ents (3, pfC b but maps) (fnd_mem (by kernel_rfl))).1.get (by omega)) (fun _ n => ⟨rfl, arrB_c _ _ _⟩) (fun _ _ => ⟨ints_ok _ _ _, arrB_ok _ _ _⟩) (by kernel_rfl) (fun hall5 => ?_) (fun _ _ => (by kernel_rfl)) (fun ei1 ex2 hx3 hn4 => ?_)))
 ·refine WPA tt_ok ?_
  refine WP_seq (WP_cond (false) (by kernel_rfl) (fun h => by cases h) (fun hc6 => ?_))
  refine WP_exit ?_
  refine WSA tt_ok ?_
  refine WP_ret ?_
  exact ⟨.s (.bool true), by kernel_rfl, fun n w' h => ⟨by rw [each_yes hinv hall5]; rfl, h.bel⟩⟩
 refine WPA tt_ok ?_
 refine WP_seq (WP_cond (true) (by kernel_rfl) (fun hc7 => ?_) (fun h => by cases h))
 refine WP_skip ?_
 refine WP_block ?_
 refine WP_seq (WP_region (ENT (coursesF b k but) ekC (exC b k) pkC (pxC b k) 6 (maps.getD k 0) sn ei1 ex2 (some 17) (by kernel_rfl) (by kernel_rfl) (fun n w h => (h.ents (3, pfC b but maps) (fnd_mem (by kernel_rfl))).1.get (by omega)) hx3 (fun n => ⟨rfl, arrB_c _ _ _⟩) (⟨ints_ok _ _ _, arrB_ok _ _ _⟩) (by kernel_rfl) ?_))
 refine WPA tt_ok ?_
 refine WSR tt_ok 2 ?_
 refine CAL 133 [.g (arrB 201 (nearF b k ex2.1 ex2.2)), .g [.int .i64 (first : Int), .int .i64 (many : Int)]] (.s (.bool (hitF (nearF b k ex2.1 ex2.2) first many))) [] (fun _ n w h => hit_callsA n _ _ _ w h1) ?_
 refine WPA tt_ok ?_
 refine WP_cond (!(hitF (nearF b k ex2.1 ex2.2) first many)) (by kernel_rfl) (fun hc8 => ?_) (fun hc8 => ?_)
 ·refine WSA tt_ok ?_
  refine WP_ret ?_
  exact ⟨.s (.bool false), by kernel_rfl, fun n w' h => ⟨by rw [each_no hx3 hc8]; rfl, h.bel⟩⟩
 refine WP_skip ?_
 refine ⟨(sn ++ [ei1]), ?_, ?_, Le_sel (ts := [14, 5]) (ids := [6, 5, 4, 0, 1, 2, 3]) (nx := 7) (by kernel_rfl)⟩
 ·refine fun j hj y hy => (List.mem_append.1 hj).elim (fun h => hinv j h y hy) (fun h => ?_)
  rw [List.mem_singleton.1 h, hx3] at hy
  cases hy
  simpa using hc8
 exact left_lt (List.getElem?_eq_some_iff.1 hx3).1 hn4
def AsksAt (w : World) : Prop := w.heap[5]? = some (.cells #[.func (.func 142) #[] #[], .func (.func 143) #[] #[]] 169 (0, 0))
theorem HSat_bookN {w : World} {sv gv cv : Value} {b : Book} {but : List Int} {maps : List Nat} (hb : BookAt w sv gv b) (h : CanAt w cv b but maps) (ha : AsksAt w) {nt : Nat} {e : List (Nat × List (Nat × Bool) × AV)} : HSat (cx0 w (vn [sv, gv, cv]) 3) (vn [sv, gv, cv]) ⟨nt, e, hpB b ++ [(2, .sl .ro 151 1 maps encM 0), (3, pfC b but maps), (4, .pf AsksAt (· = 5))], 5, []⟩ w :=
 HSat_args (vn_one (by simp [hb.ships.one, hb.sights.one, h.reads.one])) (by decide) ⟨ro_in hb.ships, ro_in hb.sights, ro_in h.reads, ⟨⟨h.at', fun w1 w2 h1 hw => h1.stab hw, fun g hg => by
  obtain ⟨q, hq, rfl⟩ := List.mem_iff_getElem.1 hg
  exact (Array.getElem?_eq_some_iff.1 (h.at' q hq)).1⟩, (Nat.le_of_ble_eq_true rfl)⟩, pf_in ha, trivial⟩
def near01 (b : Book) (but : List Int) (k first many : Nat) : Int := if someF b but k first many then 1 else 0
def near02 (b : Book) (but : List Int) (k first many : Nat) : Int := near01 b but k first many + (if eachF b but k first many then 1 else 0)
theorem taut_calls (sv gv cv : Value) (b : Book) (but : List Int) (maps : List Nat) (x : Int) (w : World) (hb : BookAt w sv gv b) (hm : CanAt w cv b but maps) (hv : Valid b) : Calls Tryd.prog 92 #[bookV2 sv gv cv b, iv x] w fun e w' => e = .returned (.agg #[iv x, iv (b.cr + b.sl)]) ∧ Below w.heap.size w w' := by
 refine calls_of_WP (cx := cx0 w (vn [sv, gv, cv]) 3) (n := vn [sv, gv, cv]) (vs := [.g (bookC b), .s (.int .i64 x)]) (hp := hpB b ++ [(2, .sl .ro 151 1 maps encM 0), (3, pfC b but maps)]) (nx := 4) tt_ok Tryd.func92 rfl rfl rfl (by kernel_rfl) (HSat_bookM hb hm) (vsOk (by kernel_rfl)) ?_
 refine WSA tt_ok ?_
 refine WSA tt_ok ?_
 refine WP_ret ?_
 exact ⟨.g [.int .i64 x, .int .i64 (IntKind.i64.wrap (b.cr + b.sl))], by kernel_rfl, fun n w' h => ⟨by simp only [AV.c, AC.c]; rw [show IntKind.i64.wrap (b.cr + b.sl) = b.cr + b.sl from wrapI (by have := hv.cr; have := hv.sl; omega) (by have := hv.cr; have := hv.sl; omega)]; rfl, h.bel⟩⟩
theorem near_calls (sv gv cv : Value) (b : Book) (but : List Int) (maps : List Nat) (k first many : Nat) (w : World) (hb : BookAt w sv gv b) (hm : CanAt w cv b but maps) (ha : AsksAt w) (hk : k < b.ships.length) (h1 : first + many ≤ 201) : Calls Tryd.prog 91 #[bookV2 sv gv cv b, iv k, .agg #[iv first, iv many]] w fun e w' => e = .returned (iv (near02 b but k first many)) ∧ Below w.heap.size w w' := by
 refine calls_of_WP (cx := cx0 w (vn [sv, gv, cv]) 3) (n := vn [sv, gv, cv]) (vs := [.g (bookC b), .s (.int .i64 (k : Int)), .g [.int .i64 (first : Int), .int .i64 (many : Int)]]) (hp := hpB b ++ [(2, .sl .ro 151 1 maps encM 0), (3, pfC b but maps), (4, .pf AsksAt (· = 5))]) (nx := 5) tt_ok Tryd.func91 rfl rfl rfl (by kernel_rfl) (HSat_bookN hb hm ha) (vsOk (by kernel_rfl)) ?_
 have hml := hm.len
 refine WSA tt_ok ?_
 refine WSA tt_ok ?_
 refine WP_seq (WP_seq (WP_region (LDGo tt_ok 169 5 0 (some 10) [.v (.func (.func 142) #[] #[]), .v (.func (.func 143) #[] #[])] 169 (.g [.v (.func (.func 142) #[] #[]), .v (.func (.func 143) #[] #[])]) (by kernel_rfl) (by kernel_rfl) (by kernel_rfl) (fun nV w h => (h.fu 4 5 AsksAt)) (by kernel_rfl) ?_)))
 refine WPA tt_ok ?_
 refine WP_block (WP_loop (σ := Int × Int) (fun zz => ⟨23, [(11, [], .s (.int .i64 zz.1)), (10, [], .g [.v (.func (.func 142) #[] #[]), .v (.func (.func 143) #[] #[])]), (7, [], .s (.int .i64 zz.2)), (5, [], .s (.p 6 0)), (3, [], .s (.p 5 0)), (1, [], .s (.int .i64 (k : Int)))], [(6, .box 144 [.int .i64 (first : Int), .int .i64 (many : Int)]), (5, .box 118 (fwC (.ref 0) b [.ref 1, .ref 2])), (0, .sl .ro 103 5 b.ships encShip zShip), (1, .sl .ro 105 4 b.sights encSight zSight), (2, .sl .ro 151 1 maps encM 0), (3, pfC b but maps), (4, .pf AsksAt (· = 5))], 7, []⟩) (fun zz => (zz.1 = 0 ∧ zz.2 = 0) ∨ (zz.1 = 1 ∧ zz.2 = near01 b but k first many) ∨ (zz.1 = 2 ∧ zz.2 = near02 b but k first many)) (fun zz => 2 - zz.1.toNat) (0, 0) (.inl ⟨rfl, rfl⟩) (Le_sel (ts := [11, 10, 7, 5, 3, 1]) (ids := [6, 5, 0, 1, 2, 3, 4]) (nx := 7) (by kernel_rfl)) ?_)
 rintro ⟨i, c⟩ hinv
 simp only at hinv
 rcases hinv with ⟨rfl, rfl⟩ | ⟨rfl, rfl⟩ | ⟨rfl, rfl⟩
 ·refine WSA tt_ok ?_
  refine WP_seq (WP_cond (decide ((0 : Int) < 2)) (by kernel_rfl) (fun hc1 => ?_) (fun h => by cases h))
  refine WP_skip ?_
  refine WP_seq (WP_block ?_)
  refine WSA tt_ok ?_
  refine WSR tt_ok 4 ?_
  refine CAL 142 [.g (fwC (.ref 0) b [.ref 1, .ref 2]), .s (.int .i64 (k : Int)), .g [.int .i64 (first : Int), .int .i64 (many : Int)]] (.s (.bool (someF b but k first many))) [] (fun _ n w h => some_calls (n 0) (n 1) (n 2) b but maps k first many w (HSat_toBook h (by kernel_rfl) (by kernel_rfl)) (HSat_toCan 2 3 hml h (by kernel_rfl) (by kernel_rfl)) hk h1) ?_
  refine WPO_nil ?_
  refine WP_join (someF b but k first many) (fun q => ⟨23, [(7, [], .s (.int .i64 (bif q then IntKind.i64.wrap (0 + 1) else 0))), (11, [], .s (.int .i64 0)), (10, [], .g [.v (.func (.func 142) #[] #[]), .v (.func (.func 143) #[] #[])]), (5, [], .s (.p 6 0)), (3, [], .s (.p 5 0)), (1, [], .s (.int .i64 (k : Int)))], [(6, .box 144 [.int .i64 (first : Int), .int .i64 (many : Int)]), (5, .box 118 (fwC (.ref 0) b [.ref 1, .ref 2])), (0, .sl .ro 103 5 b.ships encShip zShip), (1, .sl .ro 105 4 b.sights encSight zSight), (2, .sl .ro 151 1 maps encM 0), (3, pfC b but maps), (4, .pf AsksAt (· = 5))], 7, []⟩) (by kernel_rfl) (fun hc3 => ?_) (fun hc3 => ?_) ?_
  ·refine WRA tt_ok ?_
   exact Le_sel (ts := [7, 11, 10, 5, 3, 1]) (ids := [6, 5, 0, 1, 2, 3, 4]) (nx := 7) (by kernel_rfl)
  ·refine WP_skip ?_
   exact Le_sel (ts := [7, 11, 10, 5, 3, 1]) (ids := [6, 5, 0, 1, 2, 3, 4]) (nx := 7) (by kernel_rfl)
  refine WRA tt_ok ?_
  refine ⟨(IntKind.i64.wrap (0 + 1), bif (someF b but k first many) then IntKind.i64.wrap (0 + 1) else 0), ?_, ?_, Le_sel (ts := [11, 10, 7, 5, 3, 1]) (ids := [6, 5, 0, 1, 2, 3, 4]) (nx := 7) (by kernel_rfl)⟩
  ·refine .inr (.inl ⟨rfl, ?_⟩)
   simp only
   unfold near01
   cases someF b but k first many <;> rfl
  simp only
  decide
 ·refine WSA tt_ok ?_
  refine WP_seq (WP_cond (decide ((1 : Int) < 2)) (by kernel_rfl) (fun hc4 => ?_) (fun h => by cases h))
  refine WP_skip ?_
  refine WP_seq (WP_block ?_)
  refine WSA tt_ok ?_
  refine WSR tt_ok 4 ?_
  refine CAL 143 [.g (fwC (.ref 0) b [.ref 1, .ref 2]), .s (.int .i64 (k : Int)), .g [.int .i64 (first : Int), .int .i64 (many : Int)]] (.s (.bool (eachF b but k first many))) [] (fun _ n w h => each_calls (n 0) (n 1) (n 2) b but maps k first many w (HSat_toBook h (by kernel_rfl) (by kernel_rfl)) (HSat_toCan 2 3 hml h (by kernel_rfl) (by kernel_rfl)) hk h1) ?_
  refine WPO_nil ?_
  refine WP_join (eachF b but k first many) (fun q => ⟨23, [(7, [], .s (.int .i64 (bif q then IntKind.i64.wrap ((near01 b but k first many) + 1) else near01 b but k first many))), (11, [], .s (.int .i64 1)), (10, [], .g [.v (.func (.func 142) #[] #[]), .v (.func (.func 143) #[] #[])]), (5, [], .s (.p 6 0)), (3, [], .s (.p 5 0)), (1, [], .s (.int .i64 (k : Int)))], [(6, .box 144 [.int .i64 (first : Int), .int .i64 (many : Int)]), (5, .box 118 (fwC (.ref 0) b [.ref 1, .ref 2])), (0, .sl .ro 103 5 b.ships encShip zShip), (1, .sl .ro 105 4 b.sights encSight zSight), (2, .sl .ro 151 1 maps encM 0), (3, pfC b but maps), (4, .pf AsksAt (· = 5))], 7, []⟩) (by kernel_rfl) (fun hc6 => ?_) (fun hc6 => ?_) ?_
  ·refine WRA tt_ok ?_
   exact Le_sel (ts := [7, 11, 10, 5, 3, 1]) (ids := [6, 5, 0, 1, 2, 3, 4]) (nx := 7) (by kernel_rfl)
  ·refine WP_skip ?_
   exact Le_sel (ts := [7, 11, 10, 5, 3, 1]) (ids := [6, 5, 0, 1, 2, 3, 4]) (nx := 7) (by kernel_rfl)
  refine WRA tt_ok ?_
  refine ⟨(IntKind.i64.wrap (1 + 1), bif (eachF b but k first many) then IntKind.i64.wrap ((near01 b but k first many) + 1) else near01 b but k first many), ?_, ?_, Le_sel (ts := [11, 10, 7, 5, 3, 1]) (ids := [6, 5, 0, 1, 2, 3, 4]) (nx := 7) (by kernel_rfl)⟩
  ·refine .inr (.inr ⟨rfl, ?_⟩)
   simp only
   unfold near02 near01
   cases someF b but k first many <;> cases eachF b but k first many <;> rfl
  simp only
  decide
 refine WSA tt_ok ?_
 refine WP_seq (WP_cond (decide ((2 : Int) < 2)) (by kernel_rfl) (fun h => by cases h) (fun hc7 => ?_))
 refine WP_exit ?_
 refine WSA tt_ok ?_
 refine WP_ret ?_
 exact ⟨.s (.int .i64 (near02 b but k first many)), by kernel_rfl, fun n w' h => ⟨rfl, h.bel⟩⟩
end Go.Proofs.YtpfglknbkpcfnaaDoor.Fw
namespace Go.Proofs.YtpfglknbkpcfnaaDoor.Fw
open Go Go.RowKit Go.Proofs.YtpfglknbkpcfnaaDoor.Eng 
def CanF (b : Book) (but : List Int) (maps : List Nat) (w : World) : Prop := maps.length = b.ships.length ∧ MapsAt b but maps w
abbrev pfK (b : Book) (but : List Int) (maps : List Nat) : HE := .pf (CanF b but maps) (· ∈ maps)
theorem CanF.stab {b : Book} {but : List Int} (m : List Nat) (w1 w2 : World) (h : CanF b but m w1) (hw : ∀ g, g ∈ m → w2.heap[g]? = w1.heap[g]?) : CanF b but m w2 := ⟨h.1, h.2.stab hw⟩
theorem CanF.maps {b : Book} {but : List Int} (m : List Nat) (w : World) (h : CanF b but m w) (g : Nat) (hg : g ∈ m) : ∃ es clk, w.heap[g]? = some (.map es clk) := by
 obtain ⟨q, hq, rfl⟩ := List.mem_iff_getElem.1 hg
 exact ⟨_, _, h.2 q hq⟩
theorem HSat_bookK {w : World} {sv gv cv : Value} {b : Book} {but : List Int} {maps : List Nat} (hb : BookAt w sv gv b) (h : CanAt w cv b but maps) (ha : AsksAt w) {nt : Nat} {e : List (Nat × List (Nat × Bool) × AV)} : HSat (cx0 w (vn [sv, gv, cv]) 3) (vn [sv, gv, cv]) ⟨nt, e, hpB b ++ [(2, .sl .ro 151 1 maps encM 0), (3, pfK b but maps), (4, .pf AsksAt (· = 5))], 5, []⟩ w :=
 HSat_args (vn_one (by simp [hb.ships.one, hb.sights.one, h.reads.one])) (by decide) ⟨ro_in hb.ships, ro_in hb.sights, ro_in h.reads, ⟨⟨⟨h.len, h.at'⟩, fun w1 w2 h1 hw => CanF.stab _ _ _ h1 hw, fun g hg => by
  obtain ⟨q, hq, rfl⟩ := List.mem_iff_getElem.1 hg
  exact (Array.getElem?_eq_some_iff.1 (h.at' q hq)).1⟩, (Nat.le_of_ble_eq_true rfl)⟩, pf_in ha, trivial⟩
theorem HSat_toK {cx : Cx} {n : Vn} {s : AS} {w : World} {b : Book} {but : List Int} {maps : List Nat} (i j : Nat) (kd : SK) (h : HSat cx n s w) (h0 : fnd s.hp i = some (.sl kd 151 1 maps encM 0)) (h1 : fnd s.hp j = some (pfK b but maps)) : CanAt w (n i) b but maps := ⟨(h.ents _ (fnd_mem h1)).1.1, h.reads h0, (h.ents _ (fnd_mem h1)).1.2⟩
theorem near_callsI (sv gv cv : Value) (b : Book) (but : List Int) (maps : List Nat) (k first many : Int) (w : World) (hb : BookAt w sv gv b) (hm : CanAt w cv b but maps) (ha : AsksAt w) (hk : 0 ≤ k ∧ k < b.ships.length) (h1 : 0 ≤ first ∧ 0 ≤ many ∧ first + many ≤ 201) : Calls Tryd.prog 91 #[bookV2 sv gv cv b, iv k, .agg #[iv first, iv many]] w fun e w' => e = .returned (iv (near02 b but k.toNat first.toNat many.toNat)) ∧ Below w.heap.size w w' := by
 have := near_calls sv gv cv b but maps k.toNat first.toNat many.toNat w hb hm ha (by omega) (by omega)
 rwa [Int.toNat_of_nonneg hk.1, Int.toNat_of_nonneg h1.1, Int.toNat_of_nonneg h1.2.1] at this
def leastF_c1 (first : Int) (l : List Int) (k1 : Nat) : Int → Bool := fun v1_1 => decide ((k1 : Int) < (l.length : Int))
def leastF_b1 (first : Int) (l : List Int) (k1 : Nat) : Int → Bd Int Int := fun v1_1 => .go (mn v1_1 (l.getD k1 0))
def leastF (first : Int) (l : List Int) : Int :=
 (match loopR (leastF_c1 first l) (leastF_b1 first l) l.length 0 first with | .brk u1_0 => u1_0 | .ret r => r)
theorem leastF_calls (g0 : Value) (first : Int) (l : List Int) (w : World) (r0 : Reads w g0 1 l encI 0)  : Calls Tryd.prog 90 #[iv first, g0] w fun e w' => e = .returned (iv (leastF first l)) ∧ Below w.heap.size w w' := by
 refine CW tt_ok [g0] 1 [.s (.int .i64 first), .s (.ref 0)] [(0, .sl .ro 3 1 l encI 0)] 1 Tryd.func90 rfl rfl rfl (by simp [r0.one]) ⟨ro_in r0, trivial⟩ ?_
 have hl0 := Reads.len r0
 refine WSA tt_ok ?_
 refine WP_seq (WSA tt_ok ?_)
 refine WP_loopA (ρ := Int) (leastF_c1 first l) (leastF_b1 first l) l.length first (fun k : Nat => (k : Int)) (fun (ci : Int) (zz : Int) => ⟨18, [(9, [], .s (.int .i64 ci)), (8, [], .s (.int .i64 (l.length : Int))), (7, [], .s (.ref 0)), (0, [], .s (.int .i64 zz))], [(0, .sl .ro 3 1 l encI 0)], 1, []⟩) (fun zz : Int => ⟨18, [(0, [], .s (.int .i64 zz))], [(0, .sl .ro 3 1 l encI 0)], 1, []⟩) (fun k zz => True) trivial ⟨0, rfl, Le_sel (ts := [9, 8, 7, 0]) (ids := [0]) (nx := 1) (by kernel_rfl)⟩ ?_ ?_
 ·intro k1 v1_1 hn1 hp1 hi1 Q1 hq1 ho1
  refine WSA tt_ok ?_
  refine WP_seq (WP_cond (decide ((k1 : Int) < (l.length : Int))) (by kernel_rfl) (fun hc1 => ?_) (fun hc1 => ?_))
  rotate_left
  ·refine WP_exit ?_
   show Q1 (.exit 0) _
   exact LA_exit hq1 v1_1 (loopR_end hi1 hc1) ⟨k1, hn1, hp1⟩ (Le_sel (ts := [0]) (ids := [0]) (nx := 1) (by kernel_rfl))
  have hc1' := of_decide_eq_true hc1
  have hk1 : k1 < l.length := by omega
  refine WP_skip ?_
  refine WP_seq (WP_block ?_)
  refine WP_seq (WP_region (IX tt_ok (k1 : Int) l.length [] (by kernel_rfl) (fun hG => ⟨by omega, by omega⟩) ?_))
  refine WPA tt_ok ?_
  refine WRA tt_ok ?_
  refine WRA tt_ok ?_
  show Q1 .normal _
  exact LA_go hq1 (ci := IntKind.i64.wrap ((k1 : Int) + 1)) (mn v1_1 (l.getD k1 0)) hk1 (by show _ = ((k1 + 1 : Nat) : Int); rw [wrapI (by omega) (by omega)]; omega) (loopR_go hi1 hk1 hc1 (rfl)) trivial (Le_sel (ts := [9, 8, 7, 0]) (ids := [0]) (nx := 1) (by kernel_rfl))
 intro u1_0 hR1 hP1 s' hl
 refine WP_le hl ?_
 clear hl s'
 refine WSA tt_ok ?_
 refine WP_ret ?_
 exact ⟨.s (.int .i64 u1_0), by kernel_rfl, fun nV w' h => ⟨by rw [show leastF first l = u1_0 from by unfold leastF; simp only [hR1, cond_true, cond_false]]; rfl, h.bel⟩⟩
def clearF_c1 (b : Book) (but : List Int) (begin : Int) (k1 : Nat) : Int → Bool := fun v1_1 => decide ((k1 : Int) < (b.ships.length : Int))
def clearF_b1 (b : Book) (but : List Int) (begin : Int) (k1 : Nat) : Int → Bd Int Int := fun v1_1 => .go (leastF v1_1 ([IntKind.i64.wrap (2 - (near02 b but (k1 : Int).toNat begin.toNat (b.cr + b.sl).toNat))]))
def clearF (b : Book) (but : List Int) (begin : Int) : Int :=
 (match loopR (clearF_c1 b but begin) (clearF_b1 b but begin) b.ships.length 0 2 with | .brk u1_0 => u1_0 | .ret r => r)
theorem clearF_calls (sv gv cv : Value) (b : Book) (but : List Int) (maps : List Nat) (begin : Int) (w : World) (hb : BookAt w sv gv b) (hm : CanAt w cv b but maps) (ha : AsksAt w) (hv : Valid b) (hb1 : 0 ≤ begin ∧ begin ≤ 60) : Calls Tryd.prog 76 #[bookV2 sv gv cv b, iv begin] w fun e w' => e = .returned (iv (clearF b but begin)) ∧ Below w.heap.size w w' := by
 refine calls_of_WP (cx := cx0 w (vn [sv, gv, cv]) 3) (n := vn [sv, gv, cv]) (vs := [.g (bookC b), .s (.int .i64 begin)]) (hp := hpB b ++ [(2, .sl .ro 151 1 maps encM 0), (3, pfK b but maps), (4, .pf AsksAt (· = 5))]) (nx := 5) tt_ok Tryd.func76 rfl rfl rfl (by kernel_rfl) (HSat_bookK hb hm ha) (vsOk (by kernel_rfl)) ?_
 have hbs := hv.nships
 have hbc := hv.cr
 have hbl := hv.sl
 refine WSA tt_ok ?_
 refine WSA tt_ok ?_
 refine WP_seq (WSA tt_ok ?_)
 refine WP_loopA (ρ := Int) (clearF_c1 b but begin) (clearF_b1 b but begin) b.ships.length 2 (fun k : Nat => (k : Int)) (fun (ci : Int) (zz : Int) => ⟨26, [(11, [], .s (.int .i64 ci)), (10, [], .s (.int .i64 (b.ships.length : Int))), (5, [], .s (.int .i64 zz)), (2, [], .s (.p 5 0)), (1, [], .s (.int .i64 begin))], [(5, .box 118 (fwC (.ref 0) b [.ref 1, .ref 2])), (0, .sl .ro 103 5 b.ships encShip zShip), (1, .sl .ro 105 4 b.sights encSight zSight), (2, .sl .ro 151 1 maps encM 0), (3, pfK b but maps), (4, .pf AsksAt (· = 5))], 6, []⟩) (fun zz : Int => ⟨26, [(5, [], .s (.int .i64 zz))], [(5, .box 118 (fwC (.ref 0) b [.ref 1, .ref 2])), (0, .sl .ro 103 5 b.ships encShip zShip), (1, .sl .ro 105 4 b.sights encSight zSight), (2, .sl .ro 151 1 maps encM 0), (3, pfK b but maps), (4, .pf AsksAt (· = 5))], 6, []⟩) (fun k zz => True) trivial ⟨0, rfl, Le_sel (ts := [11, 10, 5, 2, 1]) (ids := [5, 0, 1, 2, 3, 4]) (nx := 6) (by kernel_rfl)⟩ ?_ ?_
 ·intro k1 v1_1 hn1 hp1 hi1 Q1 hq1 ho1
  refine WSA tt_ok ?_
  refine WP_seq (WP_cond (decide ((k1 : Int) < (b.ships.length : Int))) (by kernel_rfl) (fun hc1 => ?_) (fun hc1 => ?_))
  rotate_left
  ·refine WP_exit ?_
   show Q1 (.exit 0) _
   exact LA_exit hq1 v1_1 (loopR_end hi1 hc1) ⟨k1, hn1, hp1⟩ (Le_sel (ts := [5]) (ids := [5, 0, 1, 2, 3, 4]) (nx := 6) (by kernel_rfl))
  have hc1' := of_decide_eq_true hc1
  have hk1 : k1 < b.ships.length := by omega
  refine WP_skip ?_
  refine WP_seq (WP_block ?_)
  refine WSA tt_ok ?_
  refine WP_drawH [] (by kernel_rfl) (by kernel_rfl) ?_
  refine H_rn tt_ok [0, 1, 2, 3, 4] ?_
  refine H_stp 5 fun hfz cx' hx1 hx2 => ?_
  refine CAL 92 [.g (fwC (.ref 0) b [.ref 1, .ref 2]), .s (.int .i64 begin)] (.g [.int .i64 begin, .int .i64 (b.cr + b.sl)]) [] (fun _ nV w h => taut_calls (nV 0) (nV 1) (nV 2) b but maps begin w ⟨h.reads (id := 0) (kd := .ro) (e := 103) (by kernel_rfl), h.reads (id := 1) (kd := .ro) (e := 105) (by kernel_rfl)⟩ (HSat_toK 2 3 .ro h (by kernel_rfl) (by kernel_rfl)) hv) ?_
  refine WPE (hfz.fs [5, 0, 1, 2, 3, 4]) ?_
  refine H_stp 6 fun hfz cx' hx1 hx2 => ?_
  refine CAL 91 [.g (fwC (.ref 0) b [.ref 1, .ref 2]), .s (.int .i64 (k1 : Int)), .g [.int .i64 begin, .int .i64 (b.cr + b.sl)]] (.s (.int .i64 (near02 b but (k1 : Int).toNat begin.toNat (b.cr + b.sl).toNat))) [] (fun _ nV w h => near_callsI (nV 0) (nV 1) (nV 2) b but maps (k1 : Int) begin (b.cr + b.sl) w ⟨h.reads (id := 0) (kd := .ro) (e := 103) (by kernel_rfl), h.reads (id := 1) (kd := .ro) (e := 105) (by kernel_rfl)⟩ (HSat_toK 2 3 .ro h (by kernel_rfl) (by kernel_rfl)) (h.ft 4 5) (by first | assumption | omega | (constructor <;> omega) | (refine ⟨?_, ?_, ?_⟩ <;> omega)) (by first | assumption | omega | (constructor <;> omega) | (refine ⟨?_, ?_, ?_⟩ <;> omega))) ?_
  refine WPE (hfz.fs [5, 0, 1, 2, 3, 4]) ?_
  refine H_rn tt_ok [7] ?_
  refine H_stp 8 fun hfz cx' hx1 hx2 => ?_
  refine LIT tt_ok (by kernel_rfl) ?_
  refine LITSL 6 3 1 1 [.int .i64 (IntKind.i64.wrap (2 - (near02 b but (k1 : Int).toNat begin.toNat (b.cr + b.sl).toNat)))] [IntKind.i64.wrap (2 - (near02 b but (k1 : Int).toNat begin.toNat (b.cr + b.sl).toNat))] encI 0 (by kernel_rfl) rfl (fun _ => rfl) (fun n => rfl) ?_
  refine WPE (hfz.fs [5, 0, 1, 2, 3, 4]) ?_
  refine H_stp 9 fun hfz cx' hx1 hx2 => ?_
  refine CAL 90 [.s (.int .i64 v1_1), .s (.ref 6)] (.s (.int .i64 (leastF v1_1 ([IntKind.i64.wrap (2 - (near02 b but (k1 : Int).toNat begin.toNat (b.cr + b.sl).toNat))])))) [] (fun hG nV w h => leastF_calls (nV 6) v1_1 ([IntKind.i64.wrap (2 - (near02 b but (k1 : Int).toNat begin.toNat (b.cr + b.sl).toNat))]) w (h.reads (id := 6) (kd := .own) (e := 3) (by kernel_rfl)) ) ?_
  refine WPE (hfz.fs [5, 0, 1, 2, 3, 4]) ?_
  refine H_rn tt_ok [10] ?_
  refine H_done (by kernel_rfl) ?_
  refine WRA tt_ok ?_
  show Q1 .normal _
  exact LA_go hq1 (ci := IntKind.i64.wrap ((k1 : Int) + 1)) (leastF v1_1 ([IntKind.i64.wrap (2 - (near02 b but (k1 : Int).toNat begin.toNat (b.cr + b.sl).toNat))])) hk1 (by show _ = ((k1 + 1 : Nat) : Int); rw [wrapI (by omega) (by omega)]; omega) (loopR_go hi1 hk1 hc1 (rfl)) trivial (Le_sel (ts := [11, 10, 5, 2, 1]) (ids := [5, 0, 1, 2, 3, 4]) (nx := 6) (by kernel_rfl))
 intro u1_0 hR1 hP1 s' hl
 refine WP_le hl ?_
 clear hl s'
 refine WSA tt_ok ?_
 refine WP_ret ?_
 exact ⟨.s (.int .i64 u1_0), by kernel_rfl, fun nV w' h => ⟨by rw [show clearF b but begin = u1_0 from by unfold clearF; simp only [hR1, cond_true, cond_false]]; rfl, h.bel⟩⟩
def zeroBookV : Value := .agg #[.slice none 0 0, iv 0, iv 0, iv 0, iv 0, iv 0, .slice none 0 0, .slice none 0 0]
def askT (b : Book) : Int := if isTrueF b [] then 0 else 42
def askN (b : Book) : Int := if checkW b = 0 then 41 else checkW b
theorem asked_calls (sv gv : Value) (b : Book) (is : Bool) (w : World) (hb : BookAt w sv gv b) : Calls Tryd.prog 75 #[bookV sv gv b, .bool is] w fun e w' => Below w.heap.size w w' ∧ ((¬ (checkW b = 0 ∧ is = true) ∧ e = .returned (.tuple #[zeroBookV, iv (askN b)])) ∨ ((checkW b = 0 ∧ is = true) ∧ ∃ cv maps, e = .returned (.tuple #[bookV2 sv gv cv b, iv (askT b)]) ∧ CanAt w' cv b [] maps ∧ w'.ownsRow w.heap.size 151 1 cv maps.length (flat maps encM))) := by
 refine calls_of_WP (cx := cx0 w (vn [sv, gv]) 2) (n := vn [sv, gv]) (vs := [.g (bookA b), .s (.bool is)]) (hp := hpB b) (nx := 2) tt_ok Tryd.func75 rfl rfl rfl (by kernel_rfl) (HSat_book hb) (vsOk (by kernel_rfl)) ?_
 refine WSA tt_ok ?_
 refine WP_seq (WP_seq (WP_region (WPO_run tt_ok 1 (by kernel_rfl) ?_)))
 refine CAL 44 [.g (fwC (.ref 0) b [.ref 1])] (.s (.int .i64 (checkW b))) [] (fun _ nV w h => Check_calls (nV 0) (nV 1) b w ⟨h.reads (id := 0) (kd := .ro) (e := 103) (by kernel_rfl), h.reads (id := 1) (kd := .ro) (e := 105) (by kernel_rfl)⟩) ?_
 refine WPA tt_ok ?_
 refine WSA tt_ok ?_
 refine WP_cond ((checkW b) != 0) (by kernel_rfl) (fun hc1 => ?_) (fun hc1 => ?_)
 ·refine WSA tt_ok ?_
  refine WP_ret ?_
  exact ⟨.t [(true, [.v (.slice none 0 0), .int .i64 0, .int .i64 0, .int .i64 0, .int .i64 0, .int .i64 0, .v (.slice none 0 0), .v (.slice none 0 0)]), (false, [.int .i64 (checkW b)])], by kernel_rfl, fun nV w' h => ⟨h.bel, .inl ⟨fun hx => bne_iff_ne.1 hc1 hx.1, by unfold askN; rw [if_neg (bne_iff_ne.1 hc1)]; rfl⟩⟩⟩
 refine WP_skip ?_
 refine WP_seq (WSA tt_ok ?_)
 refine WP_cond (!is) (by kernel_rfl) (fun hc2 => ?_) (fun hc2 => ?_)
 ·refine WSA tt_ok ?_
  refine WP_ret ?_
  exact ⟨.t [(true, [.v (.slice none 0 0), .int .i64 0, .int .i64 0, .int .i64 0, .int .i64 0, .int .i64 0, .v (.slice none 0 0), .v (.slice none 0 0)]), (false, [.int .i64 41])], by kernel_rfl, fun nV w' h => ⟨h.bel, .inl ⟨fun hx => (by rw [hx.2] at hc2; cases hc2), by unfold askN; rw [if_pos (bne_eq_false_iff_eq.1 hc1)]; rfl⟩⟩⟩
 refine WP_skip ?_
 refine WSR tt_ok 1 ?_
 refine CALLMAPS 80 [.g (fwC (.ref 0) b [.ref 1]), .s (.v (.slice none 0 0))] (.g (fwC (.ref 0) b [.ref 1, .ref 4])) 151 encM (CanF b ([])) 4 (by kernel_rfl) (by kernel_rfl) (by kernel_rfl) (goes_of (by kernel_rfl)) (fun _ => (by kernel_rfl)) (fun _ => (by kernel_rfl)) (fun _ => rfl) (fun m w1 w2 h1 h2 => CanF.stab m w1 w2 h1 h2) (fun m w h1 => CanF.maps m w h1) (fun nV w h => (opened_calls (nV 0) (nV 1) (.slice none 0 0) b ([]) w ⟨h.reads (id := 0) (kd := .ro) (e := 103) (by kernel_rfl), h.reads (id := 1) (kd := .ro) (e := 105) (by kernel_rfl)⟩ ⟨none, 0, rfl, Nat.le_refl _, Nat.zero_le _, fun h => absurd h (by simp)⟩ (check_valid.1 (bne_eq_false_iff_eq.1 hc1))).mono fun e w' ⟨cv, m, h1, h2, h3, h4⟩ => ⟨cv, m, h1, h2, h4, h3.len, h3.at'⟩) (fun mp1 => ?_)
 refine WPA tt_ok ?_
 refine WP_seq (WP_seq (WP_region (WPO_run tt_ok 1 (by kernel_rfl) ?_)))
 refine CAL 81 [.g (fwC (.ref 0) b [.ref 1, .ref 4])] (.s (.bool (isTrueF b ([])))) [] (fun _ nV w h => isTrue_calls (nV 0) (nV 1) (nV 4) b ([]) mp1 w ⟨h.reads (id := 0) (kd := .ro) (e := 103) (by kernel_rfl), h.reads (id := 1) (kd := .ro) (e := 105) (by kernel_rfl)⟩ (HSat_toK 4 5 .own h (by kernel_rfl) (by kernel_rfl))) ?_
 refine WPA tt_ok ?_
 refine WP_cond (!(isTrueF b ([]))) (by kernel_rfl) (fun hc3 => ?_) (fun hc3 => ?_)
 ·refine WSA tt_ok ?_
  refine WP_ret ?_
  exact ⟨.t [(true, (fwC (.ref 0) b [.ref 1, .ref 4])), (false, [.int .i64 42])], by kernel_rfl, fun nV w' h => ⟨h.bel, .inr ⟨⟨bne_eq_false_iff_eq.1 hc1, by simpa using hc2⟩, nV 4, mp1, by have e0 : nV 0 = sv := h.ini 0 (by show 0 < 2; decide); have e1 : nV 1 = gv := h.ini 1 (by show 1 < 2; decide); unfold askT; rw [if_neg (by simpa using hc3)]; rw [← e0, ← e1]; rfl, HSat_toK 4 5 .own h (by kernel_rfl) (by kernel_rfl), own_of (z := 0) (id := 4) h (by kernel_rfl)⟩⟩⟩
 refine WP_skip ?_
 refine WSA tt_ok ?_
 refine WP_ret ?_
 exact ⟨.t [(true, (fwC (.ref 0) b [.ref 1, .ref 4])), (false, [.int .i64 0])], by kernel_rfl, fun nV w' h => ⟨h.bel, .inr ⟨⟨bne_eq_false_iff_eq.1 hc1, by simpa using hc2⟩, nV 4, mp1, by have e0 : nV 0 = sv := h.ini 0 (by show 0 < 2; decide); have e1 : nV 1 = gv := h.ini 1 (by show 1 < 2; decide); unfold askT; rw [if_pos (by simpa using hc3)]; rw [← e0, ← e1]; rfl, HSat_toK 4 5 .own h (by kernel_rfl) (by kernel_rfl), own_of (z := 0) (id := 4) h (by kernel_rfl)⟩⟩⟩
theorem askN_ne (b : Book) : (askN b != 0) = true := by
 unfold askN
 split
 ·rfl
 rename_i h; exact bne_iff_ne.2 h
theorem ask_two {b : Book} {is : Bool} (h : ((checkW b == 0) && is) = true) : checkW b = 0 ∧ is = true := by
 rw [Bool.and_eq_true] at h
 exact ⟨eq_of_beq h.1, h.2⟩
theorem asked_no (sv gv : Value) (b : Book) (is : Bool) (w : World) (hb : BookAt w sv gv b) (hq : ((checkW b == 0) && is) = false) : Calls Tryd.prog 75 #[bookV sv gv b, .bool is] w fun e w' => e = .returned (.tuple #[zeroBookV, iv (askN b)]) ∧ Below w.heap.size w w' :=
 (asked_calls sv gv b is w hb).mono fun e w' ⟨h1, h2⟩ => by
  rcases h2 with ⟨_, h2⟩ | ⟨h2, _⟩
  ·exact ⟨h2, h1⟩
  rw [h2.1, h2.2] at hq; cases hq
theorem asked_yes (sv gv : Value) (b : Book) (is : Bool) (w : World) (hb : BookAt w sv gv b) (hq1 : checkW b = 0) (hq2 : is = true) : Calls Tryd.prog 75 #[bookV sv gv b, .bool is] w fun e w' => ∃ cv maps, e = .returned (.tuple #[bookV2 sv gv cv b, iv (askT b)]) ∧ Below w.heap.size w w' ∧ w'.ownsRow w.heap.size 151 1 cv maps.length (flat maps encM) ∧ CanF b [] maps w' :=
 (asked_calls sv gv b is w hb).mono fun e w' ⟨h1, h2⟩ => by
  rcases h2 with ⟨h2, _⟩ | ⟨_, cv, maps, h3, h4, h5⟩
  ·exact absurd ⟨hq1, hq2⟩ h2
  exact ⟨cv, maps, h3, h1, h5, h4.len, h4.at'⟩
theorem within_one {x l h : Int} (hq : withinF x l h = true) : l ≤ x ∧ x ≤ h := by
 unfold withinF at hq
 simpa only [Bool.and_eq_true, decide_eq_true_eq] using hq
def clearA (b : Book) (begin : Int) : Int × Int :=
 (bif (checkW b == 0) && (withinF begin 0 60) then (bif (askT b) != 0 then (0, askT b) else (clearF b ([]) begin, 0)) else (bif (askN b) != 0 then (0, askN b) else (0, askN b)))
theorem clearA_calls (g0 g1 : Value) (b : Book) (begin : Int) (w : World) (r0 : Reads w g0 5 b.ships encShip zShip) (r1 : Reads w g1 4 b.sights encSight zSight) (ha : AsksAt w) : Calls Tryd.prog 49 #[.agg #[g0, iv b.hear.lo, iv b.hear.hi, iv b.br, iv b.cr, iv b.sl, g1], iv begin] w fun e w' => e = .returned (.tuple #[iv (clearA b begin).1, iv (clearA b begin).2]) ∧ Below w.heap.size w w' := by
 cases hq : ((checkW b == 0) && (withinF begin 0 60))
 ·refine CW tt_ok [g0, g1] 2 [.g (fwC (.ref 0) b [.ref 1]), .s (.int .i64 begin)] [(0, .sl .ro 103 5 b.ships encShip zShip), (1, .sl .ro 105 4 b.sights encSight zSight), (2, .pf AsksAt (· = 5))] 3 Tryd.func49 rfl rfl rfl (by simp [r0.one, r1.one]) ⟨ro_in r0, ro_in r1, pf_in ha, trivial⟩ ?_
  have hl0 := Reads.len r0
  have hl1 := Reads.len r1
  refine WSA tt_ok ?_
  refine WP_seq (WP_toX (σ := Unit) (fun _ => ⟨21, [(7, [], .s (.int .i64 (askN b))), (6, [], .s (.p 4 0)), (1, [], .s (.int .i64 begin))], [(4, .box 118 [.v (.slice none 0 0), .int .i64 0, .int .i64 0, .int .i64 0, .int .i64 0, .int .i64 0, .v (.slice none 0 0), .v (.slice none 0 0)]), (3, .box 34 (fwC (.ref 0) b [.ref 1])), (0, .sl .ro 103 5 b.ships encShip zShip), (1, .sl .ro 105 4 b.sights encSight zSight), (2, .pf AsksAt (· = 5))], 5, []⟩) ?_ ?_)
  ·refine WP_drawH [] (by kernel_rfl) (by kernel_rfl) ?_
   refine H_rn tt_ok [0, 1] ?_
   refine H_tw 2 7 (fun hfz cx' hx1 hx2 => ?z1) (fun hfz cx' hx1 hx2 => ?z2)
   case' z1 => refine CAL 73 [.s (.int .i64 begin)] (.s (.bool (withinF begin 0 60))) [] (fun _ _ w _ => isBegin_calls _ w) ?_
   case' z2 => refine WPA tt_ok ?_
   case' z1 => refine WPE (hfz.fs [3, 0, 1, 2]) ?_
   case' z2 => refine ⟨rfl, (hfz.fs [3, 0, 1, 2]), ?_⟩
   case' z1 => refine H_tw 3 7 (fun hfz cx' hx1 hx2 => ?z3) (fun hfz cx' hx1 hx2 => ?z4)
   case' z2 => refine H_stp 2 fun hfz cx' hx1 hx2 => ?_
   case' z3 => refine CAL 75 [.g (fwC (.ref 0) b [.ref 1]), .s (.bool (withinF begin 0 60))] (.t [(true, [.v (.slice none 0 0), .int .i64 0, .int .i64 0, .int .i64 0, .int .i64 0, .int .i64 0, .v (.slice none 0 0), .v (.slice none 0 0)]), (false, [.int .i64 (askN b)])]) [] (fun _ nV w h => asked_no (nV 0) (nV 1) b _ w ⟨h.reads (id := 0) (kd := .ro) (e := 103) (by kernel_rfl), h.reads (id := 1) (kd := .ro) (e := 105) (by kernel_rfl)⟩ hq) ?_
   case' z4 => refine WPA tt_ok ?_
   case' z2 => refine CAL 73 [.s (.int .i64 begin)] (.s (.bool (withinF begin 0 60))) [] (fun _ _ w _ => isBegin_calls _ w) ?_
   case' z3 | z2 => refine WPE (hfz.fs [3, 0, 1, 2]) ?_
   case' z4 => refine ⟨rfl, (hfz.fs [3, 0, 1, 2]), ?_⟩
   case' z4 | z2 => refine H_stp 3 fun hfz cx' hx1 hx2 => ?_
   case' z3 => refine H_rn tt_ok [4, 5, 6] ?_
   case' z4 | z2 => refine CAL 75 [.g (fwC (.ref 0) b [.ref 1]), .s (.bool (withinF begin 0 60))] (.t [(true, [.v (.slice none 0 0), .int .i64 0, .int .i64 0, .int .i64 0, .int .i64 0, .int .i64 0, .v (.slice none 0 0), .v (.slice none 0 0)]), (false, [.int .i64 (askN b)])]) [] (fun _ nV w h => asked_no (nV 0) (nV 1) b _ w ⟨h.reads (id := 0) (kd := .ro) (e := 103) (by kernel_rfl), h.reads (id := 1) (kd := .ro) (e := 105) (by kernel_rfl)⟩ hq) ?_
   case' z3 => refine H_stp 7 fun hfz cx' hx1 hx2 => ?_
   case' z4 | z2 => refine WPE (hfz.fs [3, 0, 1, 2]) ?_
   case' z3 => refine WPA tt_ok ?_
   case' z4 | z2 => refine H_rn tt_ok [4, 5, 6] ?_
   case' z3 => refine ⟨rfl, (hfz.fs [3, 0, 1, 2]), ?_⟩
   all_goals (refine H_stp 8 fun hfz cx' hx1 hx2 => ?_; refine WPA tt_ok ?_; refine ⟨rfl, (hfz.fs [3, 0, 1, 2]), ?_⟩; refine H_rn tt_ok [9] ?_; refine H_done (by kernel_rfl) ?_; exact ⟨(), Le_sel (ts := [7, 6, 1]) (ids := [4, 3, 0, 1, 2]) (nx := 5) (by kernel_rfl)⟩)
  intro _
  refine WP_seq (WSA tt_ok ?_)
  refine WP_cond ((askN b) != 0) (by kernel_rfl) (fun hc1 => ?_) (fun h => by rw [askN_ne b] at h; cases h)
  refine WSA tt_ok ?_
  refine WP_ret ?_
  exact ⟨.t [(false, [.int .i64 0]), (false, [.int .i64 (askN b)])], by kernel_rfl, fun nV w' h => ⟨by rw [show clearA b begin = (0, askN b) from by unfold clearA; simp only [hq, hc1, cond_true, cond_false]]; rfl, h.bel⟩⟩
 obtain ⟨hq1, hq2⟩ := ask_two hq
 have hv : Valid b := check_valid.1 hq1
 have hbs := hv.nships
 have hbc := hv.cr
 have hbl := hv.sl
 have hw1 := within_one hq2
 refine CW tt_ok [g0, g1] 2 [.g (fwC (.ref 0) b [.ref 1]), .s (.int .i64 begin)] [(0, .sl .ro 103 5 b.ships encShip zShip), (1, .sl .ro 105 4 b.sights encSight zSight), (2, .pf AsksAt (· = 5))] 3 Tryd.func49 rfl rfl rfl (by simp [r0.one, r1.one]) ⟨ro_in r0, ro_in r1, pf_in ha, trivial⟩ ?_
 have hl0 := Reads.len r0
 have hl1 := Reads.len r1
 refine WSA tt_ok ?_
 refine WP_seq (WP_toX (σ := List Nat) (fun mp4 => ⟨21, [(7, [], .s (.int .i64 (askT b))), (6, [], .s (.p 6 0)), (1, [], .s (.int .i64 begin))], [(6, .box 118 (fwC (.ref 0) b [.ref 1, .ref 4])), (5, pfK b [] mp4), (4, .sl .own 151 1 mp4 encM 0), (3, .box 34 (fwC (.ref 0) b [.ref 1])), (0, .sl .ro 103 5 b.ships encShip zShip), (1, .sl .ro 105 4 b.sights encSight zSight), (2, .pf AsksAt (· = 5))], 7, []⟩) ?_ ?_)
 ·refine WP_drawH [] (by kernel_rfl) (by kernel_rfl) ?_
  refine H_rn tt_ok [0, 1] ?_
  refine H_tw 2 7 (fun hfz cx' hx1 hx2 => ?z5) (fun hfz cx' hx1 hx2 => ?z6)
  case' z5 => refine CAL 73 [.s (.int .i64 begin)] (.s (.bool (withinF begin 0 60))) [] (fun _ _ w _ => isBegin_calls _ w) ?_
  case' z6 => refine WPA tt_ok ?_
  case' z5 => refine WPE (hfz.fs [3, 0, 1, 2]) ?_
  case' z6 => refine ⟨rfl, (hfz.fs [3, 0, 1, 2]), ?_⟩
  case' z5 => refine H_tw 3 7 (fun hfz cx' hx1 hx2 => ?z7) (fun hfz cx' hx1 hx2 => ?z8)
  case' z6 => refine H_stp 2 fun hfz cx' hx1 hx2 => ?_
  case' z7 => refine CALLMAPS 75 [.g (fwC (.ref 0) b [.ref 1]), .s (.bool (withinF begin 0 60))] (.t [(true, (fwC (.ref 0) b [.ref 1, .ref 4])), (false, [.int .i64 (askT b)])]) 151 encM (CanF b []) 4 (by kernel_rfl) (by kernel_rfl) (by kernel_rfl) (goes_of (by kernel_rfl)) (fun _ => (by kernel_rfl)) (fun _ => (by kernel_rfl)) (fun _ => rfl) (fun m wq0 wq1 hq2 hq3 => CanF.stab m wq0 wq1 hq2 hq3) (fun m w hq2 => CanF.maps m w hq2) (fun nV w h => asked_yes (nV 0) (nV 1) b _ w ⟨h.reads (id := 0) (kd := .ro) (e := 103) (by kernel_rfl), h.reads (id := 1) (kd := .ro) (e := 105) (by kernel_rfl)⟩ hq1 hq2) (fun mpq4 => ?_)
  case' z8 => refine WPA tt_ok ?_
  case' z6 => refine CAL 73 [.s (.int .i64 begin)] (.s (.bool (withinF begin 0 60))) [] (fun _ _ w _ => isBegin_calls _ w) ?_
  case' z7 | z6 => refine WPE (hfz.fs [3, 0, 1, 2]) ?_
  case' z8 => refine ⟨rfl, (hfz.fs [3, 0, 1, 2]), ?_⟩
  case' z8 | z6 => refine H_stp 3 fun hfz cx' hx1 hx2 => ?_
  case' z7 => refine H_rn tt_ok [4, 5, 6] ?_
  case' z8 | z6 => refine CALLMAPS 75 [.g (fwC (.ref 0) b [.ref 1]), .s (.bool (withinF begin 0 60))] (.t [(true, (fwC (.ref 0) b [.ref 1, .ref 5])), (false, [.int .i64 (askT b)])]) 151 encM (CanF b []) 5 (by kernel_rfl) (by kernel_rfl) (by kernel_rfl) (goes_of (by kernel_rfl)) (fun _ => (by kernel_rfl)) (fun _ => (by kernel_rfl)) (fun _ => rfl) (fun m wq0 wq1 hq2 hq3 => CanF.stab m wq0 wq1 hq2 hq3) (fun m w hq2 => CanF.maps m w hq2) (fun nV w h => asked_yes (nV 0) (nV 1) b _ w ⟨h.reads (id := 0) (kd := .ro) (e := 103) (by kernel_rfl), h.reads (id := 1) (kd := .ro) (e := 105) (by kernel_rfl)⟩ hq1 hq2) (fun mpq4 => ?_)
  case' z7 => refine H_stp 7 fun hfz cx' hx1 hx2 => ?_
  case' z8 | z6 => refine WPE (hfz.fs [3, 0, 1, 2]) ?_
  case' z7 => refine WPA tt_ok ?_
  case' z8 | z6 => refine H_rn tt_ok [4, 5, 6] ?_
  case' z7 => refine ⟨rfl, (hfz.fs [3, 0, 1, 2]), ?_⟩
  all_goals (refine H_stp 8 fun hfz cx' hx1 hx2 => ?_; refine WPA tt_ok ?_; refine ⟨rfl, (hfz.fs [3, 0, 1, 2]), ?_⟩; refine H_rn tt_ok [9] ?_; refine H_done (by kernel_rfl) ?_)
  case' z8 | z6 => exact ⟨mpq4, Le_ren [(6, 4), (5, 6), (4, 5)] (by repeat (first | exact trivial | refine ⟨by kernel_rfl, ?_⟩)) ⟨by kernel_rfl, rfl, by kernel_rfl, by kernel_rfl, rfl, by kernel_rfl, by kernel_rfl, rfl, by kernel_rfl, trivial⟩ (by kernel_rfl) (by kernel_rfl) (rnm_id (m := 2) (by kernel_rfl)) (by show 2 ≤ 7; decide) (by kernel_rfl) (by kernel_rfl)⟩
  exact ⟨mpq4, Le_sel (ts := [7, 6, 1]) (ids := [6, 5, 4, 3, 0, 1, 2]) (nx := 7) (by kernel_rfl)⟩
 intro mp4
 refine WP_seq (WSA tt_ok ?_)
 refine WP_cond ((askT b) != 0) (by kernel_rfl) (fun hc3 => ?_) (fun hc3 => ?_)
 ·have hc3' := hc3; try simp only [bfs, ne_eq] at hc3'
  refine WSA tt_ok ?_
  refine WP_ret ?_
  exact ⟨.t [(false, [.int .i64 0]), (false, [.int .i64 (askT b)])], by kernel_rfl, fun nV w' h => ⟨by rw [show clearA b begin = (0, askT b) from by unfold clearA; simp only [hq, hc3, cond_true, cond_false]]; rfl, h.bel⟩⟩
 have hc3' := hc3; try simp only [bfs, ne_eq] at hc3'
 refine WP_skip ?_
 refine WSR tt_ok 2 ?_
 refine CAL 76 [.g (fwC (.ref 0) b [.ref 1, .ref 4]), .s (.int .i64 begin)] (.s (.int .i64 (clearF b ([]) begin))) [] (fun _ nV w h => clearF_calls (nV 0) (nV 1) (nV 4) b ([]) mp4 begin w ⟨h.reads (id := 0) (kd := .ro) (e := 103) (by kernel_rfl), h.reads (id := 1) (kd := .ro) (e := 105) (by kernel_rfl)⟩ (HSat_toK 4 5 .own h (by kernel_rfl) (by kernel_rfl)) (h.ft 2 5) (by first | assumption | omega | (constructor <;> omega) | (refine ⟨?_, ?_, ?_⟩ <;> omega)) (by first | assumption | omega | (constructor <;> omega) | (refine ⟨?_, ?_, ?_⟩ <;> omega))) ?_
 refine WPA tt_ok ?_
 refine WP_ret ?_
 exact ⟨.t [(false, [.int .i64 (clearF b ([]) begin)]), (false, [.int .i64 0])], by kernel_rfl, fun nV w' h => ⟨by rw [show clearA b begin = (clearF b ([]) begin, 0) from by unfold clearA; simp only [hq, hc3, cond_true, cond_false]]; rfl, h.bel⟩⟩
theorem HSat_bookS {w : World} {sv gv cv : Value} {b : Book} {but : List Int} {maps : List Nat} {gb : Nat} {frm : Int} (hb : BookAt w sv gv b) (h : CanAt w cv b but maps) (ha : AsksAt w) (hg : w.heap[gb]? = some (.cells #[iv frm] 3 (0, 0))) {nt : Nat} {e : List (Nat × List (Nat × Bool) × AV)} : HSat (cx0 w (vn [sv, gv, cv]) 3) (vn [sv, gv, cv]) ⟨nt, e, hpB b ++ [(2, .sl .ro 151 1 maps encM 0), (3, pfK b but maps), (4, .pf AsksAt (· = 5)), (5, .pf (fun w => w.heap[gb]? = some (.cells #[iv frm] 3 (0, 0))) (· = gb))], 6, []⟩ w :=
 HSat_args (vn_one (by simp [hb.ships.one, hb.sights.one, h.reads.one])) (by decide) ⟨ro_in hb.ships, ro_in hb.sights, ro_in h.reads, ⟨⟨⟨h.len, h.at'⟩, fun w1 w2 h1 hw => CanF.stab _ _ _ h1 hw, fun g hg => by
  obtain ⟨q, hq, rfl⟩ := List.mem_iff_getElem.1 hg
  exact (Array.getElem?_eq_some_iff.1 (h.at' q hq)).1⟩, (Nat.le_of_ble_eq_true rfl)⟩, pf_in ha, ⟨⟨hg, fun w1 w2 h1 hw => (hw gb rfl).trans h1, fun g hg2 => by cases hg2; exact (Array.getElem?_eq_some_iff.1 hg).1⟩, (Nat.le_of_ble_eq_true rfl)⟩, trivial⟩
def sureF (b : Book) (but : List Int) (frm : Int) (minute : Int) : Bool :=
 (decide (minute ≥ frm)) && ((clearF b but minute) == 2)
theorem sureF_calls (sv gv cv : Value) (b : Book) (but : List Int) (maps : List Nat) (gb : Nat) (frm : Int) (minute : Int) (w : World) (hb : BookAt w sv gv b) (hm : CanAt w cv b but maps) (ha : AsksAt w) (hgb : w.heap[gb]? = some (.cells #[iv frm] 3 (0, 0))) (hv : Valid b) (hmi : 0 ≤ minute ∧ minute ≤ 60) : Calls Tryd.prog 114 #[bookV2 sv gv cv b, iv minute, .pointer (some ⟨gb, 0, none⟩)] w fun e w' => e = .returned (.bool (sureF b but frm minute)) ∧ Below w.heap.size w w' := by
 refine calls_of_WP (cx := cx0 w (vn [sv, gv, cv]) 3) (n := vn [sv, gv, cv]) (vs := [.g (bookC b), .s (.int .i64 minute), .s (.v (.pointer (some ⟨gb, 0, none⟩)))]) (hp := hpB b ++ [(2, .sl .ro 151 1 maps encM 0), (3, pfK b but maps), (4, .pf AsksAt (· = 5)), (5, .pf (fun w => w.heap[gb]? = some (.cells #[iv frm] 3 (0, 0))) (· = gb))]) (nx := 6) tt_ok Tryd.func114 rfl rfl rfl (by kernel_rfl) (HSat_bookS hb hm ha hgb) (vsOk (by kernel_rfl)) ?_
 refine WSA tt_ok ?_
 refine WSR tt_ok 1 ?_
 refine LDGo tt_ok 3 gb 0 (some 7) [.int .i64 frm] 3 (.s (.int .i64 frm)) (by kernel_rfl) (by kernel_rfl) (by kernel_rfl) (fun nV w h => (h.ents (5, .pf (fun w => w.heap[gb]? = some (.cells #[iv frm] 3 (0, 0))) (· = gb)) (fnd_mem (by kernel_rfl))).1) (by kernel_rfl) ?_
 refine WPO_run tt_ok 4 (by kernel_rfl) ?_
 refine CAL 76 [.g (fwC (.ref 0) b [.ref 1, .ref 2]), .s (.int .i64 minute)] (.s (.int .i64 (clearF b but minute))) [(decide (minute ≥ frm), true)] (fun _ nV w h => clearF_calls (nV 0) (nV 1) (nV 2) b but maps minute w ⟨h.reads (id := 0) (kd := .ro) (e := 103) (by kernel_rfl), h.reads (id := 1) (kd := .ro) (e := 105) (by kernel_rfl)⟩ (HSat_toK 2 3 .ro h (by kernel_rfl) (by kernel_rfl)) (h.ft 4 5) (by first | assumption | omega | (constructor <;> omega) | (refine ⟨?_, ?_, ?_⟩ <;> omega)) (by first | assumption | omega | (constructor <;> omega) | (refine ⟨?_, ?_, ?_⟩ <;> omega))) ?_
 refine WPA tt_ok ?_
 refine WP_ret ?_
 exact ⟨.s (.bool ((decide (minute ≥ frm)) && ((clearF b but minute) == 2))), by kernel_rfl, fun nV w' h => ⟨by rw [show sureF b but frm minute = ((decide (minute ≥ frm)) && ((clearF b but minute) == 2)) from rfl]; rfl, h.bel⟩⟩
def foundF_c1 (b : Book) (but : List Int) (frm : Int) (k1 : Nat) : (List Int) → Bool := fun v1_1 => decide ((k1 : Int) < 61)
def foundF_b1 (b : Book) (but : List Int) (frm : Int) (k1 : Nat) : (List Int) → Bd (List Int) (List Int) := fun v1_1 => (bif sureF b but frm (k1 : Int) then .go (v1_1 ++ ([(k1 : Int)])) else .go v1_1)
def foundF (b : Book) (but : List Int) (frm : Int) : (List Int) :=
 (match loopR (foundF_c1 b but frm) (foundF_b1 b but frm) 61 0 ([]) with | .brk u1_0 => u1_0 | .ret r => r)
theorem foundF_calls (sv gv cv : Value) (b : Book) (but : List Int) (maps : List Nat) (gb : Nat) (frm : Int) (w : World) (hb : BookAt w sv gv b) (hm : CanAt w cv b but maps) (ha : AsksAt w) (hgb : w.heap[gb]? = some (.cells #[iv frm] 3 (0, 0))) (hv : Valid b) : Calls Tryd.prog 102 #[bookV2 sv gv cv b, .agg #[.func (.func 114) #[] #[.pointer (some ⟨gb, 0, none⟩)]]] w fun e w' => ∃ v0, e = .returned (v0) ∧ Below w.heap.size w w' ∧ Reads w' v0 1 (foundF b but frm) encI 0 ∧ (∀ g, vblk v0 = some g → w.heap.size ≤ g ∧ g < w'.heap.size) := by
 refine calls_of_WP (cx := cx0 w (vn [sv, gv, cv]) 3) (n := vn [sv, gv, cv]) (vs := [.g (bookC b), .g [.v (.func (.func 114) #[] #[.pointer (some ⟨gb, 0, none⟩)])]]) (hp := hpB b ++ [(2, .sl .ro 151 1 maps encM 0), (3, pfK b but maps), (4, .pf AsksAt (· = 5)), (5, .pf (fun w => w.heap[gb]? = some (.cells #[iv frm] 3 (0, 0))) (· = gb))]) (nx := 6) tt_ok Tryd.func102 rfl rfl rfl (by kernel_rfl) (HSat_bookS hb hm ha hgb) (vsOk (by kernel_rfl)) ?_
 refine WSA tt_ok ?_
 refine WSA tt_ok ?_
 refine WP_seq (WSA tt_ok ?_)
 refine WP_loopA (ρ := (List Int)) (foundF_c1 b but frm) (foundF_b1 b but frm) 61 ([]) (fun k : Nat => (k : Int)) (fun (ci : Int) (zz : (List Int)) => ⟨26, [(7, [], .s (.int .i64 ci)), (5, [], .s (.ref 8)), (3, [], .s (.p 7 0)), (2, [], .s (.p 6 0))], [(8, .sl .own 3 1 zz encI 0), (7, .box 166 [.v (.func (.func 114) #[] #[.pointer (some ⟨gb, 0, none⟩)])]), (6, .box 118 (fwC (.ref 0) b [.ref 1, .ref 2])), (0, .sl .ro 103 5 b.ships encShip zShip), (1, .sl .ro 105 4 b.sights encSight zSight), (2, .sl .ro 151 1 maps encM 0), (3, pfK b but maps), (4, .pf AsksAt (· = 5)), (5, .pf (fun w => w.heap[gb]? = some (.cells #[iv frm] 3 (0, 0))) (· = gb))], 9, []⟩) (fun zz : (List Int) => ⟨26, [(5, [], .s (.ref 8))], [(8, .sl .own 3 1 zz encI 0), (7, .box 166 [.v (.func (.func 114) #[] #[.pointer (some ⟨gb, 0, none⟩)])]), (6, .box 118 (fwC (.ref 0) b [.ref 1, .ref 2])), (0, .sl .ro 103 5 b.ships encShip zShip), (1, .sl .ro 105 4 b.sights encSight zSight), (2, .sl .ro 151 1 maps encM 0), (3, pfK b but maps), (4, .pf AsksAt (· = 5)), (5, .pf (fun w => w.heap[gb]? = some (.cells #[iv frm] 3 (0, 0))) (· = gb))], 9, []⟩) (fun (k1 : Nat) (zz : (List Int)) => zz.length ≤ k1) (by simp) ⟨0, rfl, Le.trans (Le_nilT [5] 3 1 encI 0 (fun _ => rfl)) (Le_sel (ts := [7, 5, 3, 2]) (ids := [8, 7, 6, 0, 1, 2, 3, 4, 5]) (nx := 9) (by kernel_rfl))⟩ ?_ ?_
 ·intro k1 v1_1 hn1 hp1 hi1 Q1 hq1 ho1
  replace hp1 : v1_1.length ≤ k1 := hp1
  refine WSA tt_ok ?_
  refine WP_seq (WP_cond (decide ((k1 : Int) < 61)) (by kernel_rfl) (fun hc1 => ?_) (fun hc1 => ?_))
  rotate_left
  ·refine WP_exit ?_
   show Q1 (.exit 0) _
   exact LA_exit hq1 v1_1 (loopR_end hi1 hc1) ⟨k1, hn1, hp1⟩ (Le_sel (ts := [5]) (ids := [8, 7, 6, 0, 1, 2, 3, 4, 5]) (nx := 9) (by kernel_rfl))
  have hc1' := of_decide_eq_true hc1
  have hk1 : k1 < 61 := by omega
  refine WP_skip ?_
  refine WP_seq (WP_block ?_)
  refine WSA tt_ok ?_
  refine WSR tt_ok 4 ?_
  refine CAL 114 [.g (fwC (.ref 0) b [.ref 1, .ref 2]), .s (.int .i64 (k1 : Int)), .s (.v (.pointer (some ⟨gb, 0, none⟩)))] (.s (.bool (sureF b but frm (k1 : Int)))) [] (fun _ nV w h => sureF_calls (nV 0) (nV 1) (nV 2) b but maps gb frm (k1 : Int) w ⟨h.reads (id := 0) (kd := .ro) (e := 103) (by kernel_rfl), h.reads (id := 1) (kd := .ro) (e := 105) (by kernel_rfl)⟩ (HSat_toK 2 3 .ro h (by kernel_rfl) (by kernel_rfl)) (h.ft 4 5) (h.ents (5, .pf (fun w => w.heap[gb]? = some (.cells #[iv frm] 3 (0, 0))) (· = gb)) (fnd_mem (by kernel_rfl))).1 hv (by first | assumption | omega | (constructor <;> omega) | (refine ⟨?_, ?_, ?_⟩ <;> omega))) ?_
  refine WPO_nil ?_
  refine WP_cond (sureF b but frm (k1 : Int)) (by kernel_rfl) (fun hc3 => ?_) (fun hc3 => ?_)
  ·refine WP_region (WPO_run tt_ok 2 (by kernel_rfl) ?_)
   refine LIT tt_ok (by kernel_rfl) ?_
   refine LITSL 9 3 1 1 [.int .i64 (k1 : Int)] [(k1 : Int)] encI 0 (by kernel_rfl) rfl (fun _ => rfl) (fun n => rfl) ?_
   refine APP tt_ok (.s (.ref 8)) (.s (.ref 9)) 51 3 (some 18) 1 v1_1 ([(k1 : Int)]) encI 0 (by kernel_rfl) (by kernel_rfl) (by kernel_rfl) (by kernel_rfl) (.inr (.inl ⟨8, rfl, (by kernel_rfl)⟩)) (.inr ⟨9, .own, rfl, (by kernel_rfl), (by simp only [List.length_cons, List.length_nil]; omega)⟩) (by simp) (fun y => rfl) (fun y => List.all_eq_true.1 rfl) (fun i hi => (by have hby : (tyL tt 3).map (·.bytes) = some 8 := (by kernel_rfl); rw [hi] at hby; simp only [Option.map_some, Option.some.injEq] at hby; rw [hby]; simp only [List.length_append, List.length_cons, List.length_nil]; omega)) ?_
   refine WPA tt_ok ?_
   refine WRA tt_ok ?_
   show Q1 .normal _
   exact LA_go hq1 (ci := IntKind.i64.wrap ((k1 : Int) + 1)) (v1_1 ++ ([(k1 : Int)])) hk1 (by show _ = ((k1 + 1 : Nat) : Int); rw [wrapI (by omega) (by omega)]; omega) (loopR_go hi1 hk1 hc1 (by unfold foundF_b1; simp only [hc3, cond_true, cond_false])) (by simp only [List.length_append, List.length_cons, List.length_nil]; omega) (Le_ren [(8, 10)] (by repeat (first | exact trivial | refine ⟨by kernel_rfl, ?_⟩)) ⟨by kernel_rfl, rfl, by kernel_rfl, by kernel_rfl, rfl, by kernel_rfl, by kernel_rfl, rfl, by kernel_rfl, by kernel_rfl, rfl, by kernel_rfl, trivial⟩ (by kernel_rfl) (by kernel_rfl) (rnm_id (m := 3) (by kernel_rfl)) (by show 3 ≤ 9; decide) (by kernel_rfl) (by kernel_rfl))
  refine WP_skip ?_
  refine WRA tt_ok ?_
  show Q1 .normal _
  exact LA_go hq1 (ci := IntKind.i64.wrap ((k1 : Int) + 1)) v1_1 hk1 (by show _ = ((k1 + 1 : Nat) : Int); rw [wrapI (by omega) (by omega)]; omega) (loopR_go hi1 hk1 hc1 (by unfold foundF_b1; simp only [hc3, cond_true, cond_false])) (by omega) (Le_sel (ts := [7, 5, 3, 2]) (ids := [8, 7, 6, 0, 1, 2, 3, 4, 5]) (nx := 9) (by kernel_rfl))
 intro u1_0 hR1 hP1 s' hl
 obtain ⟨kP1, hkP1, hpP1⟩ := hP1
 replace hpP1 : u1_0.length ≤ kP1 := hpP1
 refine WP_le hl ?_
 clear hl s'
 refine WSR tt_ok 5 ?_
 refine SLCF tt_ok 8 3 1 u1_0 encI 0 (some 25) (by kernel_rfl) (by kernel_rfl) (fun _ => (by kernel_rfl)) (fun sv1 => ?_)
 refine WPA tt_ok ?_
 refine WP_ret ?_
 exact ⟨.s (.v sv1), by kernel_rfl, fun nV w' h => ⟨sv1, rfl, h.bel, by rw [show foundF b but frm = u1_0 from by unfold foundF; simp only [hR1, cond_true, cond_false]]; exact (slE_lt (id := 9) (v := sv1) (sz := 1) (li := u1_0) (enc := encI) (z := 0) h (by kernel_rfl)).1, (slE_lt (id := 9) (v := sv1) (sz := 1) (li := u1_0) (enc := encI) (z := 0) h (by kernel_rfl)).2⟩⟩
theorem sure_calls (x : Int) (w : World) : Calls Tryd.prog 103 #[iv x] w fun e w' => ∃ g, w.heap.size ≤ g ∧ e = .returned (.agg #[.func (.func 114) #[] #[.pointer (some ⟨g, 0, none⟩)]]) ∧ Below w.heap.size w w' ∧ w'.heap[g]? = some (.cells #[iv x] 3 (0, 0)) := by
 refine C0 tt_ok [.s (.int .i64 x)] Tryd.func103 rfl rfl rfl ?_
 refine WSA tt_ok ?_
 refine WSA tt_ok ?_
 refine WP_ret ?_
 exact ⟨.g [.ref 2], by kernel_rfl, fun nV w' h => by
  obtain ⟨g, h1, h2, h3⟩ := h.ents (0, .box 3 [.int .i64 x]) (fnd_mem (by kernel_rfl))
  have h4 := h.ents (2, .clo 114 [] [.s (.p 0 0)]) (fnd_mem (by kernel_rfl))
  refine ⟨g, h2, ?_, h.bel, h3⟩
  simp only at h1 h4
  show Ending.returned (.agg #[nV 2]) = _
  rw [h4]
  simp [AV.c, AC.c, ptrAt, h1]⟩
def freeA (b : Book) : (List Int) × Int :=
 (bif (checkW b == 0) && true then (bif (askT b) != 0 then ([], askT b) else (foundF b ([]) 0, 0)) else (bif (askN b) != 0 then ([], askN b) else ([], askN b)))
theorem freeA_calls (g0 g1 : Value) (b : Book) (w : World) (r0 : Reads w g0 5 b.ships encShip zShip) (r1 : Reads w g1 4 b.sights encSight zSight) (ha : AsksAt w) : Calls Tryd.prog 89 #[.agg #[g0, iv b.hear.lo, iv b.hear.hi, iv b.br, iv b.cr, iv b.sl, g1]] w fun e w' => ∃ v0, e = .returned (.tuple #[v0, iv (freeA b).2]) ∧ Below w.heap.size w w' ∧ Reads w' v0 1 (freeA b).1 encI 0 ∧ (∀ g, vblk v0 = some g → w.heap.size ≤ g ∧ g < w'.heap.size) := by
 cases hq : ((checkW b == 0) && true)
 ·refine CW tt_ok [g0, g1] 2 [.g (fwC (.ref 0) b [.ref 1])] [(0, .sl .ro 103 5 b.ships encShip zShip), (1, .sl .ro 105 4 b.sights encSight zSight), (2, .pf AsksAt (· = 5))] 3 Tryd.func89 rfl rfl rfl (by simp [r0.one, r1.one]) ⟨ro_in r0, ro_in r1, pf_in ha, trivial⟩ ?_
  have hl0 := Reads.len r0
  have hl1 := Reads.len r1
  refine WSA tt_ok ?_
  refine WSR tt_ok 1 ?_
  refine CAL 75 [.g (fwC (.ref 0) b [.ref 1]), .s (.bool true)] (.t [(true, [.v (.slice none 0 0), .int .i64 0, .int .i64 0, .int .i64 0, .int .i64 0, .int .i64 0, .v (.slice none 0 0), .v (.slice none 0 0)]), (false, [.int .i64 (askN b)])]) [] (fun _ nV w h => asked_no (nV 0) (nV 1) b _ w ⟨h.reads (id := 0) (kd := .ro) (e := 103) (by kernel_rfl), h.reads (id := 1) (kd := .ro) (e := 105) (by kernel_rfl)⟩ hq) ?_
  refine WPA tt_ok ?_
  refine WP_seq (WSA tt_ok ?_)
  refine WP_cond ((askN b) != 0) (by kernel_rfl) (fun hc1 => ?_) (fun h => by rw [askN_ne b] at h; cases h)
  refine WSA tt_ok ?_
  refine WP_ret ?_
  exact ⟨.t [(false, [.v (.slice none 0 0)]), (false, [.int .i64 (askN b)])], by kernel_rfl, fun nV w' h => ⟨.slice none 0 0, by rw [show freeA b = ([], askN b) from by unfold freeA; simp only [hq, hc1, cond_true, cond_false]]; rfl, h.bel, by rw [show freeA b = ([], askN b) from by unfold freeA; simp only [hq, hc1, cond_true, cond_false]]; exact reads_nil, fun g hg => by cases hg⟩⟩
 obtain ⟨hq1, hq2⟩ := ask_two hq
 have hv : Valid b := check_valid.1 hq1
 have hbs := hv.nships
 have hbc := hv.cr
 have hbl := hv.sl
 refine CW tt_ok [g0, g1] 2 [.g (fwC (.ref 0) b [.ref 1])] [(0, .sl .ro 103 5 b.ships encShip zShip), (1, .sl .ro 105 4 b.sights encSight zSight), (2, .pf AsksAt (· = 5))] 3 Tryd.func89 rfl rfl rfl (by simp [r0.one, r1.one]) ⟨ro_in r0, ro_in r1, pf_in ha, trivial⟩ ?_
 have hl0 := Reads.len r0
 have hl1 := Reads.len r1
 refine WSA tt_ok ?_
 refine WSR tt_ok 1 ?_
 refine CALLMAPS 75 [.g (fwC (.ref 0) b [.ref 1]), .s (.bool true)] (.t [(true, (fwC (.ref 0) b [.ref 1, .ref 4])), (false, [.int .i64 (askT b)])]) 151 encM (CanF b []) 4 (by kernel_rfl) (by kernel_rfl) (by kernel_rfl) (goes_of (by kernel_rfl)) (fun _ => (by kernel_rfl)) (fun _ => (by kernel_rfl)) (fun _ => rfl) (fun m w1 w2 h1 h2 => CanF.stab m w1 w2 h1 h2) (fun m w h1 => CanF.maps m w h1) (fun nV w h => asked_yes (nV 0) (nV 1) b _ w ⟨h.reads (id := 0) (kd := .ro) (e := 103) (by kernel_rfl), h.reads (id := 1) (kd := .ro) (e := 105) (by kernel_rfl)⟩ hq1 hq2) (fun mp11 => ?_)
 refine WPA tt_ok ?_
 refine WP_seq (WSA tt_ok ?_)
 refine WP_cond ((askT b) != 0) (by kernel_rfl) (fun hc3 => ?_) (fun hc3 => ?_)
 ·have hc3' := hc3; try simp only [bfs, ne_eq] at hc3'
  refine WSA tt_ok ?_
  refine WP_ret ?_
  exact ⟨.t [(false, [.v (.slice none 0 0)]), (false, [.int .i64 (askT b)])], by kernel_rfl, fun nV w' h => ⟨.slice none 0 0, by rw [show freeA b = ([], askT b) from by unfold freeA; simp only [hq, hc3, cond_true, cond_false]]; rfl, h.bel, by rw [show freeA b = ([], askT b) from by unfold freeA; simp only [hq, hc3, cond_true, cond_false]]; exact reads_nil, fun g hg => by cases hg⟩⟩
 have hc3' := hc3; try simp only [bfs, ne_eq] at hc3'
 refine WP_skip ?_
 refine WP_seq (WP_drawH [] (by kernel_rfl) (by kernel_rfl) ?_)
 refine H_rn tt_ok [0] ?_
 refine H_stp 1 fun hfz cx' hx1 hx2 => ?_
 refine CALLBOX 103 [.s (.int .i64 0)] (fun gb2 => .g [.v (.func (.func 114) #[] #[.pointer (some ⟨gb2, 0, none⟩)])]) 3 #[iv 0] (by kernel_rfl) (goes_of (by kernel_rfl)) (fun _ => (by kernel_rfl)) (fun _ => (by kernel_rfl)) (fun _ _ _ => rfl) (fun nV w h => sure_calls 0 w) (fun gb2 => ?_)
 refine WPE (hfz.fs [6, 5, 4, 3, 0, 1, 2]) ?_
 refine H_stp 2 fun hfz cx' hx1 hx2 => ?_
 refine CALLSL 102 [.g (fwC (.ref 0) b [.ref 1, .ref 4]), .g [.v (.func (.func 114) #[] #[.pointer (some ⟨gb2, 0, none⟩)])]] (fun sv1 => .s (.v sv1)) 1 (foundF b ([]) 0) encI 0 (by decide) (by kernel_rfl) (goes_of (by kernel_rfl)) (fun _ => (by kernel_rfl)) (fun _ => (by kernel_rfl)) (fun _ _ _ => rfl) (fun nV w h => foundF_calls (nV 0) (nV 1) (nV 4) b ([]) mp11 gb2 0 w ⟨h.reads (id := 0) (kd := .ro) (e := 103) (by kernel_rfl), h.reads (id := 1) (kd := .ro) (e := 105) (by kernel_rfl)⟩ (HSat_toK 4 5 .own h (by kernel_rfl) (by kernel_rfl)) (h.ft 2 5) (h.ents (7, boxE gb2 3 #[iv 0]) (fnd_mem (by kernel_rfl))).1 hv) (fun sv1 => ?_)
 refine WPE (hfz.fs [6, 5, 4, 3, 0, 1, 2]) ?_
 refine H_rn tt_ok [3, 4] ?_
 refine H_done (by kernel_rfl) ?_
 refine WP_ret ?_
 exact ⟨.t [(false, [.v sv1]), (false, [.int .i64 0])], by kernel_rfl, fun nV w' h => ⟨sv1, by rw [show freeA b = (foundF b ([]) 0, 0) from by unfold freeA; simp only [hq, hc3, cond_true, cond_false]]; rfl, h.bel, by rw [show freeA b = (foundF b ([]) 0, 0) from by unfold freeA; simp only [hq, hc3, cond_true, cond_false]]; exact (slE_lt (id := 8) (v := sv1) (sz := 1) (li := (foundF b ([]) 0)) (enc := encI) (z := 0) h (by kernel_rfl)).1, (slE_lt (id := 8) (v := sv1) (sz := 1) (li := (foundF b ([]) 0)) (enc := encI) (z := 0) h (by kernel_rfl)).2⟩⟩
def rightA (b : Book) : Bool × Int :=
 (bif (checkW b) != 0 then (false, checkW b) else (isTrueF b ([]), 0))
theorem rightA_calls (g0 g1 : Value) (b : Book) (w : World) (r0 : Reads w g0 5 b.ships encShip zShip) (r1 : Reads w g1 4 b.sights encSight zSight)  : Calls Tryd.prog 53 #[.agg #[g0, iv b.hear.lo, iv b.hear.hi, iv b.br, iv b.cr, iv b.sl, g1]] w fun e w' => e = .returned (.tuple #[.bool (rightA b).1, iv (rightA b).2]) ∧ Below w.heap.size w w' := by
 refine CW tt_ok [g0, g1] 2 [.g (fwC (.ref 0) b [.ref 1])] [(0, .sl .ro 103 5 b.ships encShip zShip), (1, .sl .ro 105 4 b.sights encSight zSight)] 2 Tryd.func53 rfl rfl rfl (by simp [r0.one, r1.one]) ⟨ro_in r0, ro_in r1, trivial⟩ ?_
 have hl0 := Reads.len r0
 have hl1 := Reads.len r1
 refine WSA tt_ok ?_
 refine WP_seq (WP_seq (WP_region (WPO_run tt_ok 1 (by kernel_rfl) ?_)))
 refine CAL 44 [.g (fwC (.ref 0) b [.ref 1])] (.s (.int .i64 (checkW b))) [] (fun _ nV w h => Check_calls (nV 0) (nV 1) b w ⟨h.reads (id := 0) (kd := .ro) (e := 103) (by kernel_rfl), h.reads (id := 1) (kd := .ro) (e := 105) (by kernel_rfl)⟩) ?_
 refine WPA tt_ok ?_
 refine WSA tt_ok ?_
 refine WP_cond ((checkW b) != 0) (by kernel_rfl) (fun hc2 => ?_) (fun hc2 => ?_)
 ·have hc2' := hc2; try simp only [bfs, ne_eq] at hc2'
  refine WSA tt_ok ?_
  refine WP_ret ?_
  exact ⟨.t [(false, [.bool false]), (false, [.int .i64 (checkW b)])], by kernel_rfl, fun nV w' h => ⟨by rw [show rightA b = (false, checkW b) from by unfold rightA; simp only [hc2, cond_true, cond_false]]; rfl, h.bel⟩⟩
 have hc2' := hc2; try simp only [bfs, ne_eq] at hc2'
 refine WP_skip ?_
 have hv : Valid b := check_valid.1 (by assumption)
 refine WSR tt_ok 1 ?_
 refine CALLMAPS 80 [.g (fwC (.ref 0) b [.ref 1]), .s (.v (.slice none 0 0))] (.g (fwC (.ref 0) b [.ref 1, .ref 3])) 151 encM (CanF b ([])) 3 (by kernel_rfl) (by kernel_rfl) (by kernel_rfl) (goes_of (by kernel_rfl)) (fun _ => (by kernel_rfl)) (fun _ => (by kernel_rfl)) (fun _ => rfl) (fun m w1 w2 h1 h2 => CanF.stab m w1 w2 h1 h2) (fun m w h1 => CanF.maps m w h1) (fun nV w h => (opened_calls (nV 0) (nV 1) (.slice none 0 0) b ([]) w ⟨h.reads (id := 0) (kd := .ro) (e := 103) (by kernel_rfl), h.reads (id := 1) (kd := .ro) (e := 105) (by kernel_rfl)⟩ ⟨none, 0, rfl, Nat.le_refl _, Nat.zero_le _, fun h => absurd h (by simp)⟩ hv).mono fun e w' ⟨cv, m, h1, h2, h3, h4⟩ => ⟨cv, m, h1, h2, h4, h3.len, h3.at'⟩) (fun mp12 => ?_)
 refine CAL 81 [.g (fwC (.ref 0) b [.ref 1, .ref 3])] (.s (.bool (isTrueF b ([])))) [] (fun _ nV w h => isTrue_calls (nV 0) (nV 1) (nV 3) b ([]) mp12 w ⟨h.reads (id := 0) (kd := .ro) (e := 103) (by kernel_rfl), h.reads (id := 1) (kd := .ro) (e := 105) (by kernel_rfl)⟩ (HSat_toK 3 4 .own h (by kernel_rfl) (by kernel_rfl))) ?_
 refine WPA tt_ok ?_
 refine WP_ret ?_
 exact ⟨.t [(false, [.bool (isTrueF b ([]))]), (false, [.int .i64 0])], by kernel_rfl, fun nV w' h => ⟨by rw [show rightA b = (isTrueF b ([]), 0) from by unfold rightA; simp only [hc2, cond_true, cond_false]]; rfl, h.bel⟩⟩
end Go.Proofs.YtpfglknbkpcfnaaDoor.Fw
namespace Go.Proofs.YtpfglknbkpcfnaaDoor.Eng
open Go Go.RowKit
structure DRow where
 k : Int × Int
 hd : Hd
 l : List Int
def dkKey (x : DRow) : Value := pairV x.k.1 x.k.2
def dkVal (x : DRow) : Value := .slice x.hd.1 x.l.length x.hd.2
def dkIs (a b : Int) (x : DRow) : Bool := x.k == (a, b)
def dkStrip (x : DRow) : (Int × Int) × List Int := (x.k, x.l)
def dkRow (L : List ((Int × Int) × List Int)) (a b : Int) : List Int := ((L.find? fun x => x.1 == (a, b)).map (·.2)).getD []
def dkPut (L : List ((Int × Int) × List Int)) (a b : Int) (l : List Int) : List ((Int × Int) × List Int) :=
 if L.any (fun x => x.1 == (a, b)) then L.map (fun x => if x.1 == (a, b) then (x.1, l) else x) else L ++ [((a, b), l)]
abbrev dBlk (x : DRow) (g : Nat) : Prop := vblk (dkVal x) = some g
section
variable (enc : Int → List Value) (e : TypeId)
abbrev dOwn (w : World) (x : DRow) : Prop := w.ownsRow 0 e 1 (dkVal x) x.l.length (flat x.l enc)
structure OwnD (gm : Nat) (L : List DRow) (w : World) : Prop where
 map : w.heap[gm]? = some (.map (ents L dkKey dkVal) L.length)
 rows : ∀ x ∈ L, dOwn enc e w x
 keys : L.Pairwise fun x y => x.k ≠ y.k
 sep : L.Pairwise fun x y => ∀ g, dBlk x g → ¬ dBlk y g
 gmr : ∀ x ∈ L, ¬ dBlk x gm
structure OwnX (gm : Nat) (L : List DRow) (a b : Int) (w : World) : Prop where
 map : w.heap[gm]? = some (.map (ents L dkKey dkVal) L.length)
 rows : ∀ x ∈ L, x.k ≠ (a, b) → dOwn enc e w x
 keys : L.Pairwise fun x y => x.k ≠ y.k
 sep : L.Pairwise fun x y => x.k ≠ (a, b) → y.k ≠ (a, b) → ∀ g, dBlk x g → ¬ dBlk y g
 gmr : ∀ x ∈ L, x.k ≠ (a, b) → ¬ dBlk x gm
end
def ftD (gm : Nat) (L : List DRow) (g : Nat) : Prop := g = gm ∨ ∃ x ∈ L, dBlk x g
def ftX (gm : Nat) (L : List DRow) (a b : Int) (g : Nat) : Prop := g = gm ∨ ∃ x ∈ L, x.k ≠ (a, b) ∧ dBlk x g
abbrev ownD (enc : Int → List Value) (e : TypeId) (gm : Nat) (L : List DRow) : HE := .jf (OwnD enc e gm L) (ftD gm L)
abbrev ownX (enc : Int → List Value) (e : TypeId) (gm : Nat) (L : List DRow) (a b : Int) : HE := .jf (OwnX enc e gm L a b) (ftX gm L a b)
theorem ownsRow_same {w w' : World} {base : Nat} {e : TypeId} {sz : Nat} {v : Value} {k : Nat} {xs : List Value} (h : w.ownsRow base e sz v k xs) (hw : ∀ g, vblk v = some g → w'.heap[g]? = w.heap[g]?) : w'.ownsRow base e sz v k xs :=
 ⟨h.1, h.2.imp id fun ⟨g, cap, cur, h1, h2, h3, h4⟩ => ⟨g, cap, cur, h1, h2, (hw g (by rw [h1]; rfl)).trans h3, h4⟩⟩
theorem OwnD.stab {enc : Int → List Value} {e : TypeId} {gm : Nat} {L : List DRow} (w1 w2 : World) (h : OwnD enc e gm L w1) (hw : ∀ g, ftD gm L g → w2.heap[g]? = w1.heap[g]?) : OwnD enc e gm L w2 :=
 ⟨(hw gm (.inl rfl)).trans h.map, fun x hx => ownsRow_same (h.rows x hx) fun g hg => hw g (.inr ⟨x, hx, hg⟩), h.keys, h.sep, h.gmr⟩
theorem OwnX.stab {enc : Int → List Value} {e : TypeId} {gm : Nat} {L : List DRow} {a b : Int} (w1 w2 : World) (h : OwnX enc e gm L a b w1) (hw : ∀ g, ftX gm L a b g → w2.heap[g]? = w1.heap[g]?) : OwnX enc e gm L a b w2 :=
 ⟨(hw gm (.inl rfl)).trans h.map, fun x hx hk => ownsRow_same (h.rows x hx hk) fun g hg => hw g (.inr ⟨x, hx, hk, hg⟩), h.keys, h.sep, h.gmr⟩
theorem OwnD.toX {enc : Int → List Value} {e : TypeId} {gm : Nat} {L : List DRow} {w : World} (h : OwnD enc e gm L w) (a b : Int) : OwnX enc e gm L a b w :=
 ⟨h.map, fun x hx _ => h.rows x hx, h.keys, h.sep.imp fun h _ _ => h, fun x hx _ => h.gmr x hx⟩
structure DeepAt (enc : Int → List Value) (gm : Nat) (L : List DRow) (w : World) : Prop where
 map : w.heap[gm]? = some (.map (ents L dkKey dkVal) L.length)
 rows : ∀ x ∈ L, Reads w (dkVal x) 1 x.l enc 0
def ftR (gm : Nat) (L : List DRow) (g : Nat) : Prop := g = gm ∨ ∃ x ∈ L, dBlk x g ∧ 0 < x.l.length
theorem DeepAt.stab {enc : Int → List Value} {gm : Nat} {L : List DRow} (w1 w2 : World) (h : DeepAt enc gm L w1) (hw : ∀ g, ftR gm L g → w2.heap[g]? = w1.heap[g]?) : DeepAt enc gm L w2 :=
 ⟨(hw gm (.inl rfl)).trans h.map, fun x hx => (h.rows x hx).stab0 fun g hg => hw g (.inr ⟨x, hx, hg⟩)⟩
def dkHd (L : List DRow) (a b : Int) : Hd := ((L.find? (dkIs a b)).map (·.hd)).getD (none, 0)
theorem dk_find (L : List DRow) (a b : Int) : dkRow (L.map dkStrip) a b = ((L.find? (dkIs a b)).map (·.l)).getD [] := by
 unfold dkRow
 rw [List.find?_map, Option.map_map]
 rfl
theorem pw_mem1 {α : Type} {R : α → α → Prop} (hsym : ∀ x y, R x y → R y x) {l : List α} (h : l.Pairwise R) {x y : α} (hx : x ∈ l) (hy : y ∈ l) (hne : x ≠ y) : R x y := by
 induction l with
 | nil => cases hx
 | cons a r ih =>
  obtain ⟨h1, h2⟩ := List.pairwise_cons.1 h
  rcases List.mem_cons.1 hx with e1 | hx1
  ·rcases List.mem_cons.1 hy with e2 | hy1
   ·exact absurd (e1.trans e2.symm) hne
   rw [e1]; exact h1 _ hy1
  rcases List.mem_cons.1 hy with e2 | hy1
  ·rw [e2]; exact hsym _ _ (h1 _ hx1)
  exact ih h2 hx1 hy1
theorem ownsRow_reads {w : World} {e : TypeId} {sz : Nat} {α : Type} {l : List α} {enc : α → List Value} {z : α} {v : Value} (h1 : ∀ y, (enc y).length = sz) (h3 : w.ownsRow 0 e sz v l.length (flat l enc)) : Reads w v sz l enc z := by
 rcases h3.2 with ⟨hx, h0⟩ | ⟨g, cap, cur, hx, _, hheap, hcap, hm, hcur, htk⟩
 ·have hl : l = [] := List.eq_nil_of_length_eq_zero h0
  subst hl
  exact ⟨none, 0, hx, Nat.le_refl _, Nat.zero_le _, fun hp => absurd hp (by simp)⟩
 refine ⟨_, cap, hx, hcap, hm, fun _ => ⟨_, rfl, fun j hj o ho => ?_⟩⟩
 have hlt : j * sz + o < l.length * sz := by
  have : (j + 1) * sz ≤ l.length * sz := Nat.mul_le_mul_right _ hj
  rw [Nat.add_mul] at this; omega
 rw [add_pl, Nat.zero_add, cell_of_row w g _ _ _ _ hheap]
 have e1 : cur[j * sz + o]? = (flat l enc)[j * sz + o]? := by
  rw [← htk, List.getElem?_take, if_pos hlt]; simp
 rw [e1]
 have : ∀ (l : List α) (j : Nat), j < l.length → (flat l enc)[j * sz + o]? = some ((enc (l.getD j z)).getD o undef) := by
  intro l
  induction l with
  | nil => intro j hj; simp at hj
  | cons y r ih =>
   intro j hj
   cases j with
   | zero =>
    simp only [flat, List.flatMap_cons, Nat.zero_mul, Nat.zero_add]
    rw [List.getElem?_append_left (by rw [h1]; exact ho)]
    simp [List.getD, List.getElem?_eq_getElem (show o < (enc y).length by rw [h1]; exact ho)]
   | succ j =>
    simp only [flat, List.flatMap_cons]
    rw [List.getElem?_append_right (by rw [h1, Nat.add_mul]; omega)]
    have e2 : (j + 1) * sz + o - (enc y).length = j * sz + o := by rw [h1, Nat.add_mul]; omega
    rw [e2]
    have := ih j (by simpa using hj)
    simpa [flat, List.getD] using this
 exact this l j hj
section
variable {P : Program} {tt : TT} {cx : Cx} {s s' : AS} {Q : Exit → AS → Prop} {ops : Array Oper} {l : List Oper} {enc : Int → List Value}
theorem dk_reads {gm : Nat} {L : List DRow} {a b : Int} {w : World} (h : DeepAt enc gm L w) : Reads w (.slice (dkHd L a b).1 (dkRow (L.map dkStrip) a b).length (dkHd L a b).2) 1 (dkRow (L.map dkStrip) a b) enc 0 := by
 rw [dk_find]
 unfold dkHd
 cases hq : L.find? (dkIs a b) with
 | none => exact reads_nil
 | some x => exact h.rows x (List.mem_of_find?_eq_some hq)
theorem dk_foot {gm : Nat} {L : List DRow} {a b : Int} (g : Nat) (h : vblk (.slice (dkHd L a b).1 (dkRow (L.map dkStrip) a b).length (dkHd L a b).2) = some g ∧ 0 < (dkRow (L.map dkStrip) a b).length) : ftR gm L g := by
 rw [dk_find] at h
 unfold dkHd at h
 cases hq : L.find? (dkIs a b) with
 | none => rw [hq] at h; exact absurd h.2 (by simp)
 | some x => rw [hq] at h; exact .inr ⟨x, List.mem_of_find?_eq_some hq, h⟩
def lkoA (tt : TT) (s : AS) : List Oper → Option (AV × TypeId × TypeId × AV × Option Tmp)
 | o :: _ => match o.op, o.guard with
  | .lookup t m k false, none => match tyL tt t, ev s [] m, ev s [] k with
   | some ⟨_, _, _, .map kt e⟩, some mv, some kv => some (mv, kt, e, kv, o.dst)
   | _, _, _ => none
  | _, _ => none
 | [] => none
def dkSet (L : List DRow) (a b : Int) (hd : Hd) (li : List Int) : List DRow :=
 if L.any (dkIs a b) then L.map (fun x => if dkIs a b x then ⟨x.k, hd, li⟩ else x) else L ++ [⟨(a, b), hd, li⟩]
theorem dkSet_strip (L : List DRow) (a b : Int) (hd : Hd) (li : List Int) : (dkSet L a b hd li).map dkStrip = dkPut (L.map dkStrip) a b li := by
 have ha : (L.map dkStrip).any (fun x => x.1 == (a, b)) = L.any (dkIs a b) := by rw [List.any_map]; rfl
 unfold dkSet dkPut
 rw [ha]
 by_cases h : L.any (dkIs a b) = true
 ·rw [if_pos h, if_pos h, List.map_map, List.map_map]
  refine List.map_congr_left fun x _ => ?_
  show dkStrip (if dkIs a b x then _ else x) = if dkIs a b x then _ else _
  by_cases hx : dkIs a b x = true
  ·rw [if_pos hx, if_pos hx]; rfl
  rw [if_neg hx, if_neg hx]
 rw [if_neg h, if_neg h, List.map_append]; rfl
theorem dkSet_mem {L : List DRow} {a b : Int} {hd : Hd} {li : List Int} {x : DRow} (h : x ∈ dkSet L a b hd li) : x = ⟨(a, b), hd, li⟩ ∨ (x ∈ L ∧ x.k ≠ (a, b)) := by
 unfold dkSet at h
 by_cases ha : L.any (dkIs a b) = true
 ·rw [if_pos ha] at h
  obtain ⟨y, hy, rfl⟩ := List.mem_map.1 h
  by_cases hk : dkIs a b y = true
  ·have hk' : y.k = (a, b) := eq_of_beq hk
   rw [if_pos hk, hk']; exact .inl rfl
  rw [if_neg hk]; exact .inr ⟨hy, fun e => hk (beq_iff_eq.2 e)⟩
 rw [if_neg ha] at h
 rcases List.mem_append.1 h with h | h
 ·exact .inr ⟨h, fun e => ha (List.any_eq_true.2 ⟨x, h, beq_iff_eq.2 e⟩)⟩
 exact .inl (List.mem_singleton.1 h)
theorem dkSet_pw {L : List DRow} {a b : Int} {hd : Hd} {li : List Int} {R : DRow → DRow → Prop} (hk : L.Pairwise fun x y => x.k ≠ y.k) (ho : L.Pairwise fun x y => x.k ≠ (a, b) → y.k ≠ (a, b) → R x y)
  (hn : ∀ x ∈ L, x.k ≠ (a, b) → R x ⟨(a, b), hd, li⟩ ∧ R ⟨(a, b), hd, li⟩ x) : (dkSet L a b hd li).Pairwise R := by
 unfold dkSet
 by_cases ha : L.any (dkIs a b) = true
 ·rw [if_pos ha, List.pairwise_map]
  refine List.Pairwise.imp_of_mem (fun {x y} hx hy h => ?_) (hk.and ho)
  by_cases h1 : dkIs a b x = true
  ·have e1 : x.k = (a, b) := eq_of_beq h1
   by_cases h2 : dkIs a b y = true
   ·exact absurd (e1.trans (eq_of_beq h2 : y.k = (a, b)).symm) h.1
   rw [if_pos h1, if_neg h2, e1]; exact (hn y hy fun e => h2 (beq_iff_eq.2 e)).2
  by_cases h2 : dkIs a b y = true
  ·have e2 : y.k = (a, b) := eq_of_beq h2
   rw [if_neg h1, if_pos h2, e2]; exact (hn x hx fun e => h1 (beq_iff_eq.2 e)).1
  rw [if_neg h1, if_neg h2]; exact h.2 (fun e => h1 (beq_iff_eq.2 e)) (fun e => h2 (beq_iff_eq.2 e))
 rw [if_neg ha]
 have hno : ∀ x ∈ L, x.k ≠ (a, b) := fun x hx e => ha (List.any_eq_true.2 ⟨x, hx, beq_iff_eq.2 e⟩)
 refine List.pairwise_append.2 ⟨List.Pairwise.imp_of_mem (fun {x y} hx hy h => h (hno x hx) (hno y hy)) ho, List.pairwise_singleton _ _, fun x hx y hy => ?_⟩
 rw [List.mem_singleton.1 hy]
 exact (hn x hx (hno x hx)).1
theorem rem_rep {l : List (Nat × HE)} {id : Nat} {e : HE} : rem (rep l id e) id = rem l id := by
 induction l with
 | nil => rfl
 | cons y r ih =>
  simp only [rep]
  rcases hb : Nat.beq y.1 id with _ | _
  ·simp only [cond_false, rem, hb, ih]
  simp only [cond_true, rem, hb]
theorem zipIdx_find_idx {L : List DRow} {a b : Int} {z : DRow × Nat} (h : (L.zipIdx.find? fun z => dkIs a b z.1) = some z) : ∃ hl : z.2 < L.length, L[z.2] = z.1 ∧ z.1.k = (a, b) := by
 have h2 := List.mem_zipIdx' (x := z.1) (i := z.2) (List.mem_of_find?_eq_some h)
 have := List.find?_some h
 exact ⟨h2.1, h2.2.symm, eq_of_beq this⟩
theorem Le_deep {id : Nat} {e : TypeId} {g : Nat} {L : List DRow} (hf : fnd s.hp id = some (ownD enc e g L)) (h1 : ∀ y, (enc y).length = 1) : Le cx s { s with hp := rep s.hp id (.pf (DeepAt enc g L) (ftR g L)) } := fun n a w hs => by
 have h := hs.heap.ents _ (fnd_mem hf)
 refine ⟨n, hs.weak hf (fun h => by cases h) (fun g' hg => ?_) (Nat.le_refl _) ⟨⟨h.1.map, fun x hx => ownsRow_reads h1 (h.1.rows x hx)⟩, DeepAt.stab⟩ trivial⟩
 rcases hg with rfl | ⟨x, hx, hb, _⟩
 ·exact .inl rfl
 exact .inr ⟨x, hx, hb⟩
end
def dkAdd (L : List DRow) (a b : Int) : List DRow := if L.any (dkIs a b) then L else L ++ [⟨(a, b), (none, 0), []⟩]
def dkIdx (L : List DRow) (a b : Int) : Nat := (dkAdd L a b).findIdx (dkIs a b)
theorem dkAdd_any (L : List DRow) (a b : Int) : (dkAdd L a b).any (dkIs a b) = true := by
 unfold dkAdd
 by_cases h : L.any (dkIs a b) = true
 ·rw [if_pos h]; exact h
 rw [if_neg h, List.any_append]; simp [dkIs]
theorem dkAdd_put (L : List DRow) (a b : Int) (li : List Int) : dkPut ((dkAdd L a b).map dkStrip) a b li = dkPut (L.map dkStrip) a b li := by
 unfold dkAdd
 by_cases h : L.any (dkIs a b) = true
 ·rw [if_pos h]
 have h0 : ¬ (L.map dkStrip).any (fun x => x.1 == (a, b)) = true := by rw [List.any_map]; exact h
 have h1 : ((L ++ [(⟨(a, b), (none, 0), []⟩ : DRow)]).map dkStrip).any (fun x => x.1 == (a, b)) = true := by
  rw [List.map_append, List.any_append]; simp [dkStrip]
 rw [if_neg h]
 unfold dkPut
 rw [if_pos h1, if_neg h0, List.map_append, List.map_append]
 congr 1
 ·refine (List.map_congr_left fun x hx => ?_).trans (List.map_id _)
  by_cases hx1 : (x.1 == (a, b)) = true
  ·exact absurd (List.any_eq_true.2 ⟨x, hx, hx1⟩) h0
  rw [if_neg hx1]; rfl
 simp [dkStrip]
theorem dkAdd_mem {L : List DRow} {a b : Int} {x : DRow} (h : x ∈ dkAdd L a b) : x ∈ L ∨ (x = ⟨(a, b), (none, 0), []⟩ ∧ ¬ L.any (dkIs a b) = true) := by
 unfold dkAdd at h
 by_cases ha : L.any (dkIs a b) = true
 ·rw [if_pos ha] at h; exact .inl h
 rw [if_neg ha] at h
 rcases List.mem_append.1 h with h | h
 ·exact .inl h
 exact .inr ⟨List.mem_singleton.1 h, ha⟩
theorem dkIdx_spec (L : List DRow) (a b : Int) : ∃ h : dkIdx L a b < (dkAdd L a b).length, ((dkAdd L a b)[dkIdx L a b]).k = (a, b) := by
 obtain ⟨x, hx, hk⟩ := List.any_eq_true.1 (dkAdd_any L a b)
 have h := List.findIdx_lt_length_of_exists ⟨x, hx, hk⟩
 exact ⟨h, eq_of_beq (List.findIdx_getElem (w := h))⟩
section
variable {P : Program} {tt : TT} {cx : Cx} {s s' : AS} {Q : Exit → AS → Prop} {ops : Array Oper} {l : List Oper} {enc : Int → List Value}
theorem hand_over {n : Vn} {act : Act} {w : World} {id : Nat} {L : List DRow} {a b : Int} {g : Nat} {e : TypeId} {G : Nat → Prop} {V : Value} {S : List Int} (hs : Sat cx n s act w) (hf : fnd s.hp id = some (.jf (OwnD enc e g L) G)) (hG : ∀ q, ftD g L q → G q)
  (henc : ∀ y, (enc y).length = 1) (hVown : w.ownsRow 0 e 1 V S.length (flat S enc)) (hVb : ∀ q, vblk V = some q → ∃ x ∈ L, x.k = (a, b) ∧ dBlk x q) :
  Sat cx (upd (upd n s.nx .nilFunc) (s.nx + 1) V) ((({ s with hp := rem s.hp id } : AS).add (ownX enc e g L a b)).add (.sl .own e 1 S enc 0)) act w := by
 obtain ⟨hD, hokD, _⟩ := hs.heap.ents _ (fnd_mem hf)
 have hsym : ∀ (x y : Nat × HE), ((x.2.mut = true ∨ y.2.mut = true) → ∀ g, x.2.foot (n x.1) g → ¬ y.2.foot (n y.1) g) → ((y.2.mut = true ∨ x.2.mut = true) → ∀ g, y.2.foot (n y.1) g → ¬ x.2.foot (n x.1) g) :=
  fun x y h hm g h1 h2 => h hm.symm g h2 h1
 have hx0 : ∀ q, ftX g L a b q → ftD g L q := fun q hq => by
  rcases hq with rfl | ⟨x, hx, _, hb⟩
  ·exact .inl rfl
  exact .inr ⟨x, hx, hb⟩
 have hap : ∀ q, ftD g L q → ∀ x ∈ rem s.hp id, ¬ x.2.foot (n x.1) q := fun q hq x hx hxq =>
  pw_mem hsym hs.heap.sep ((rem_sub s.hp id).subset hx) (fnd_mem hf) (fun h => rem_ne hx (by rw [h])) (.inr rfl) q hxq (hG q hq)
 have hst0 : Sat cx n { s with hp := rem s.hp id } act w := env_hp hs (rem_more s id) (hs.heap.rem id)
 have h1 : HSat cx (upd n s.nx .nilFunc) (({ s with hp := rem s.hp id } : AS).add (ownX enc e g L a b)) w := (hs.heap.rem id).add (Below.refl _ w) rfl ⟨hD.toX a b, fun q hq => hokD q (hG q (hx0 q hq)), OwnX.stab⟩ trivial (fun q hq => hs.heap.lt _ (fnd_mem hf) q (hG q (hx0 q hq))) (fun q hq => .inr fun x hx _ => hap q (hx0 q hq) x hx)
 have hst1 := env_add hst0 (upd_lt n s.nx _) h1
 have hone : V.oneCell' = true := by rcases hVown.2 with ⟨rfl, _⟩ | ⟨q, cap, cur, rfl, _⟩ <;> rfl
 have hfoot : ∀ q, vblk V = some q → ftD g L q := fun q hq => by obtain ⟨x, hx, _, hb⟩ := hVb q hq; exact .inr ⟨x, hx, hb⟩
 have h2 : HSat cx (upd (upd n s.nx .nilFunc) (s.nx + 1) V) ((({ s with hp := rem s.hp id } : AS).add (ownX enc e g L a b)).add (.sl .own e 1 S enc 0)) w := h1.add (Below.refl _ w) hone ⟨henc, fun q hq => hokD q (hG q (hfoot q hq)), hVown⟩ trivial (fun q hq => hs.heap.lt _ (fnd_mem hf) q (hG q (hfoot q hq))) (fun q hq => .inr fun x hx hm hxq => by
  obtain ⟨y, hy, hyk, hyb⟩ := hVb q hq
  rcases List.mem_cons.1 hx with rfl | hx
  ·rcases hxq with rfl | ⟨x', hx', hk', hb'⟩
   ·exact hD.gmr y hy hyb
   have hne : x' ≠ y := fun h => hk' (h ▸ hyk)
   exact pw_mem1 (R := fun x y : DRow => ∀ g, dBlk x g → ¬ dBlk y g) (fun x y h g h1 h2 => h g h2 h1) hD.sep hx' hy hne q hb' hyb
  have hlt := hs.heap.ids x ((rem_sub s.hp id).subset hx)
  rw [upd_lt n s.nx _ _ hlt] at hxq
  exact hap q (hfoot q hq) x hx hxq)
 exact env_add hst1 (upd_lt (upd n s.nx .nilFunc) (s.nx + 1) _) h2
def menA (tt : TT) (s : AS) : List Oper → Option (AV × TypeId × TypeId × AV × Option Tmp)
 | o :: _ => match o.op, o.guard with
  | .mapEntry t m k, none => match tyL tt t, ev s [] m, ev s [] k with
   | some ⟨_, _, _, .map kt e⟩, some mv, some kv => some (mv, kt, e, kv, o.dst)
   | _, _, _ => none
  | _, _ => none
 | [] => none
theorem dkAdd_own {e : TypeId} {g : Nat} {L : List DRow} {a b : Int} {w w' : World} (h : OwnD enc e g L w) (hg : w'.heap[g]? = some (.map (ents (dkAdd L a b) dkKey dkVal) (dkAdd L a b).length)) (ho : ∀ q, q ≠ g → w'.heap[q]? = w.heap[q]?) : OwnD enc e g (dkAdd L a b) w' := by
 have hold : ∀ x ∈ L, dOwn enc e w' x := fun x hx => ownsRow_same (h.rows x hx) fun q hq => ho q fun e => h.gmr x hx (e ▸ hq)
 have hnb : ∀ q, ¬ dBlk (⟨(a, b), (none, 0), []⟩ : DRow) q := fun q hq => by cases hq
 refine ⟨hg, fun x hx => ?_, ?_, ?_, fun x hx => ?_⟩
 ·rcases dkAdd_mem hx with hx | ⟨rfl, _⟩
  ·exact hold x hx
  exact ⟨rfl, .inl ⟨rfl, rfl⟩⟩
 ·unfold dkAdd
  by_cases ha : L.any (dkIs a b) = true
  ·rw [if_pos ha]; exact h.keys
  rw [if_neg ha]
  refine List.pairwise_append.2 ⟨h.keys, List.pairwise_singleton _ _, fun x hx y hy e => ?_⟩
  rw [List.mem_singleton.1 hy] at e
  exact ha (List.any_eq_true.2 ⟨x, hx, beq_iff_eq.2 e⟩)
 ·unfold dkAdd
  by_cases ha : L.any (dkIs a b) = true
  ·rw [if_pos ha]; exact h.sep
  rw [if_neg ha]
  refine List.pairwise_append.2 ⟨h.sep, List.pairwise_singleton _ _, fun x hx y hy q _ hq => ?_⟩
  rw [List.mem_singleton.1 hy] at hq
  exact hnb q hq
 rcases dkAdd_mem hx with hx | ⟨rfl, _⟩
 ·exact h.gmr x hx
 exact hnb g
theorem ents_same {L : List DRow} {a b : Int} {z : DRow × Nat} (h : (L.zipIdx.find? fun z => dkIs a b z.1) = some z) :
  (ents L dkKey dkVal).modify z.2 (fun e => { e with key := pairV a b }) = ents L dkKey dkVal := by
 obtain ⟨hl, hz, hkz⟩ := zipIdx_find_idx h
 apply Array.ext'
 apply List.ext_getElem?
 intro i
 simp only [ents, Array.toList_modify, List.getElem?_modify, List.getElem?_mapIdx, Option.map_eq_map]
 by_cases hi : z.2 = i
 ·subst hi
  rw [List.getElem?_eq_getElem hl, hz]
  simp only [Option.map_some, Option.some.injEq, if_true]
  show ({ key := pairV a b, val := dkVal z.1, born := z.2 } : MapEntry) = { key := pairV z.1.k.1 z.1.k.2, val := dkVal z.1, born := z.2 }
  rw [hkz]
 cases hq : L[i]? with
 | none => rfl
 | some y => simp only [Option.map_some, Option.some.injEq, if_neg hi]
theorem dkIdx_old {L : List DRow} {a b : Int} {z : DRow × Nat} (hk : L.Pairwise fun x y => x.k ≠ y.k) (h : (L.zipIdx.find? fun z => dkIs a b z.1) = some z) : dkAdd L a b = L ∧ dkIdx L a b = z.2 := by
 obtain ⟨hl, hz, hkz⟩ := zipIdx_find_idx h
 have ha : L.any (dkIs a b) = true := List.any_eq_true.2 ⟨z.1, by rw [← hz]; exact List.getElem_mem _, (show dkIs a b z.1 = true from beq_iff_eq.2 hkz)⟩
 have e1 : dkAdd L a b = L := by unfold dkAdd; rw [if_pos ha]
 refine ⟨e1, ?_⟩
 obtain ⟨hi, hki⟩ := dkIdx_spec L a b
 have hi' : dkIdx L a b < L.length := by rw [e1] at hi; exact hi
 have hki' : (L[dkIdx L a b]).k = (a, b) := by rw [← hki]; congr 1; simp only [e1]
 by_cases hne : dkIdx L a b = z.2
 ·exact hne
 have hp := List.pairwise_iff_getElem.1 hk
 rcases Nat.lt_or_gt_of_ne hne with hlt | hlt
 ·exact absurd (by rw [hki', hz, hkz]) (hp _ _ hi' hl hlt)
 exact absurd (by rw [hki', hz, hkz]) (hp _ _ hl hi' hlt)
theorem dkIdx_new {L : List DRow} {a b : Int} (h : (L.zipIdx.find? fun z => dkIs a b z.1) = none) : dkAdd L a b = L ++ [⟨(a, b), (none, 0), []⟩] ∧ dkIdx L a b = L.length := by
 have hzf := zip_find (dkIs a b) L 0
 rw [h] at hzf
 have hno : ∀ x ∈ L, ¬ dkIs a b x = true := List.find?_eq_none.1 hzf.symm
 have ha : ¬ L.any (dkIs a b) = true := fun h2 => by
  obtain ⟨x, hx, hxk⟩ := List.any_eq_true.1 h2
  exact hno x hx hxk
 have e1 : dkAdd L a b = L ++ [⟨(a, b), (none, 0), []⟩] := by unfold dkAdd; rw [if_neg ha]
 refine ⟨e1, ?_⟩
 unfold dkIdx
 rw [e1, List.findIdx_append, List.findIdx_eq_length_of_false (fun x hx => by simpa using hno x hx)]
 simp [dkIs]
theorem MENO (hT : TTok P tt) (id : Nat) (L : List DRow) (a b : Int) (g : Nat) (kt et e : TypeId) (d : Option Tmp) (h : menA tt s l = some (.s (.v (.map (some g))), kt, et, .g [.int .i64 a, .int .i64 b], d))
  (hf : fnd s.hp id = some (ownD enc e g L)) (hkt : pair2 P kt = true) (hz : (tyL tt et).map (fun i => i.zero) = some (.slice none 0 0)) (henc : ∀ y, (enc y).length = 1) (S : List Int) (hS : S = dkRow (L.map dkStrip) a b)
  (hp : ((((({ s with hp := rem s.hp id } : AS).add (ownX enc e g (dkAdd L a b) a b)).add (.sl .own e 1 S enc 0)).put d [] (.t [(false, [.ref (s.nx + 1)]), (false, [.int .i64 (dkIdx L a b : Int)])])).isSome = true))
  (hK : WPO P cx ops l.tail ((((({ s with hp := rem s.hp id } : AS).add (ownX enc e g (dkAdd L a b) a b)).add (.sl .own e 1 S enc 0)).put d [] (.t [(false, [.ref (s.nx + 1)]), (false, [.int .i64 (dkIdx L a b : Int)])])).getD s) Q) : WPO P cx ops l s Q := fun n act w hs => by
 cases l with
 | nil => cases h
 | cons o rest =>
  obtain ⟨s', hs'⟩ := Option.isSome_iff_exists.1 hp
  rw [hs'] at hK
  simp only [menA] at h
  split at h <;> try (cases h; done)
  rename_i t m k ho hg
  split at h <;> try (cases h; done)
  rename_i z1 b1 zv kt2 e2 mv2 kv2 ht hm hk
  simp only [Option.some.injEq, Prod.mk.injEq] at h
  obtain ⟨rfl, rfl, rfl, rfl, hdst⟩ := h
  obtain ⟨F⟩ := hT.get ht
  have hd : F.desc = .map kt2 e2 := by
   have := F.td
   cases hd : F.desc <;> rw [hd] at this <;> simp only [tdOf] at this <;> first
    | (cases this; done)
    | (injection this with h1 h2; rw [h1, h2])
  have hH : Holds act [] := fun x hx => by cases hx
  obtain ⟨e1, _⟩ := ev_sound hs.env hH hm
  obtain ⟨e2', _⟩ := ev_sound hs.env hH hk
  have hpr : AV.c n (.g [.int .i64 a, .int .i64 b]) = pairV a b := rfl
  rw [hpr] at e2'
  simp only [AV.c, AC.c] at e1
  obtain ⟨hD, hokD, _⟩ := hs.heap.ents _ (fnd_mem hf)
  have hfind := find_pair hkt a b (fun x : DRow => x.k) dkKey dkVal (fun _ => rfl) w L
  obtain ⟨zi, hzi, hzi2⟩ := Option.map_eq_some_iff.1 hz
  obtain ⟨E⟩ := hT.get hzi
  obtain ⟨V, hrun, hVown, hVb⟩ : ∃ V : Value, (execOp act.eval o).run P w = .ok (.value (.tuple #[V, .int .i64 (dkIdx L a b : Int)])) (w.putObj g (.map (ents (dkAdd L a b) dkKey dkVal) (dkAdd L a b).length)) ∧
    (∀ w' : World, (∀ q, q ≠ g → w'.heap[q]? = w.heap[q]?) → w'.ownsRow 0 e 1 V S.length (flat S enc)) ∧ (∀ q, vblk V = some q → ∃ x ∈ dkAdd L a b, x.k = (a, b) ∧ dBlk x q) := by
   have hzf := zip_find (dkIs a b) L 0
   rw [hS, dk_find, ← hzf]
   cases hq : L.zipIdx.find? fun z => dkIs a b z.1 with
   | none =>
    obtain ⟨h1, h2⟩ := dkIdx_new hq
    refine ⟨.slice none 0 0, ?_, fun w' _ => ⟨rfl, .inl ⟨rfl, rfl⟩⟩, fun q hq => by cases hq⟩
    unfold execOp
    rw [ho]
    simp only [e1, e2', Sem.run_bind, Instr.mapEntry, run_underlying F.hdesc, hd, Result.andThen_ok, run_getObj' hD.map, check_pairB hkt a b w, hfind]
    rw [show (List.find? (fun z => z.1.k == (a, b)) L.zipIdx) = none from hq]
    simp only [Option.map_none, Sem.run_bind, run_zero' E, Result.andThen_ok, run_setObj' hD.map, Sem.run_pure, hzi2, goInt]
    rw [h2, h1, ents_snoc, List.length_append]
    rfl
   | some z =>
    obtain ⟨h1, h2⟩ := dkIdx_old hD.keys hq
    obtain ⟨hl, hzz, hkz⟩ := zipIdx_find_idx hq
    have hmem : z.1 ∈ L := by rw [← hzz]; exact List.getElem_mem _
    have hold : (((ents L dkKey dkVal)[z.2]?).map (·.key)).getD (pairV a b) = pairV a b := by
     rw [ents_get (List.getElem?_eq_getElem hl), hzz]
     show dkKey z.1 = _
     unfold dkKey; rw [hkz]
    have hbn : (((ents L dkKey dkVal)[z.2]?).map (fun x => (x.born : Int))).getD 0 = (z.2 : Int) := by
     rw [ents_get (List.getElem?_eq_getElem hl)]; rfl
    have hstay : (Instr.keyThatStays (pairV a b) (pairV a b)).run P w = .ok (pairV a b) w := by
     have hsb : Instr.sameBits 10000 (pairV a b) (pairV a b) = true := by
      show Instr.sameBits (9999 + 1) (pairV a b) (pairV a b) = true
      simp [Instr.sameBits, pairV]
     unfold Instr.keyThatStays
     rw [if_pos hsb]
     simp only [Sem.run_pure]
    refine ⟨dkVal z.1, ?_, fun w' ho' => ownsRow_same (hD.rows _ hmem) fun q hq => ho' q fun e => hD.gmr _ hmem (e ▸ hq), fun q hq => ⟨z.1, by rw [h1]; exact hmem, hkz, hq⟩⟩
    unfold execOp
    rw [ho]
    simp only [e1, e2', Sem.run_bind, Instr.mapEntry, run_underlying F.hdesc, hd, Result.andThen_ok, run_getObj' hD.map, check_pairB hkt a b w, hfind]
    rw [show (List.find? (fun z => z.1.k == (a, b)) L.zipIdx) = some z from hq]
    simp only [Option.map_some, hold, hbn, Sem.run_bind, hstay, Result.andThen_ok, run_setObj' hD.map, Sem.run_pure, goInt]
    rw [ents_same hq, h2, h1]
  refine wp_value (wanted_none (ops := ops) hg) hrun ?_
  rw [hdst]
  have hoth : ∀ q, q ≠ g → (w.putObj g (.map (ents (dkAdd L a b) dkKey dkVal) (dkAdd L a b).length)).heap[q]? = w.heap[q]? := fun q hq => World.putObj_heap_other hq
  have hgs : (w.putObj g (.map (ents (dkAdd L a b) dkKey dkVal) (dkAdd L a b).length)).heap[g]? = some (.map (ents (dkAdd L a b) dkKey dkVal) (dkAdd L a b).length) := World.putObj_heap_same (Array.getElem?_eq_some_iff.1 hD.map).1
  generalize hw' : w.putObj g (.map (ents (dkAdd L a b) dkKey dkVal) (dkAdd L a b).length) = w' at hoth hgs ⊢
  have hz' : w'.heap.size = w.heap.size := by rw [← hw']; exact World.putObj_size
  have hG : ∀ q, ftD g (dkAdd L a b) q → ftD g L q := fun q hq => by
   rcases hq with rfl | ⟨x, hx, hb⟩
   ·exact .inl rfl
   rcases dkAdd_mem hx with hx | ⟨rfl, _⟩
   ·exact .inr ⟨x, hx, hb⟩
   cases hb
  have hh1 := hs.heap.write (w' := w') (e := .jf (OwnD enc e g (dkAdd L a b)) (ftD g L)) hf rfl (g := g) (.inl rfl) rfl (fun _ => rfl) (Nat.le_refl _) (hokD g (.inl rfl)) hoth hz' (by rw [← hw']; rfl) (by rw [← hw']; rfl) (by rw [← hw']; rfl)
   ⟨dkAdd_own hD hgs hoth, hokD, fun w1 w2 h1 hw => OwnD.stab w1 w2 h1 fun q hq => hw q (hG q hq)⟩ trivial
  have hst1 := env_hp hs (more_rep (e := .jf (OwnD enc e g (dkAdd L a b)) (ftD g L)) hf (Nat.le_refl _)) hh1
  have hst2 := hand_over (V := V) (S := S) (a := a) (b := b) hst1 (fnd_rep_eq hf) hG henc (hVown w' hoth) hVb
  have hrr : (((({ ({ s with hp := rep s.hp id (.jf (OwnD enc e g (dkAdd L a b)) (ftD g L)) } : AS) with hp := rem (rep s.hp id (.jf (OwnD enc e g (dkAdd L a b)) (ftD g L))) id } : AS).add (ownX enc e g (dkAdd L a b) a b)).add (.sl .own e 1 S enc 0))) = ((({ s with hp := rem s.hp id } : AS).add (ownX enc e g (dkAdd L a b) a b)).add (.sl .own e 1 S enc 0)) := by
   rw [rem_rep]
  have hst3 := hrr ▸ hst2
  exact hK _ _ _ (put_sat hst3 hs' (fun _ => ⟨by
   show Value.tuple #[V, .int .i64 (dkIdx L a b : Int)] = Value.tuple #[upd (upd n s.nx .nilFunc) (s.nx + 1) V (s.nx + 1), .int .i64 (dkIdx L a b : Int)]
   rw [upd_same], fun x hx => by
    rcases List.mem_cons.1 hx with rfl | hx
    ·intro c hc
     rw [List.mem_singleton.1 hc]
     exact Nat.lt_succ_self _
    rw [List.mem_singleton.1 hx]
    intro c hc
    rw [List.mem_singleton.1 hc]
    trivial⟩) (fun hn => absurd hH hn))
end
def pix {α : Type} (p : α × α) (i : Int) : α := if i = 0 then p.1 else p.2
theorem ents_at {L : List DRow} {a b : Int} {hd : Hd} {li : List Int} (hk : L.Pairwise fun x y => x.k ≠ y.k) {i : Nat} (hl : i < L.length) (hi : (L[i]).k = (a, b)) :
  (ents L dkKey dkVal).modify i (fun e => { e with val := dkVal ⟨(a, b), hd, li⟩ }) = ents (dkSet L a b hd li) dkKey dkVal ∧ L.length = (dkSet L a b hd li).length := by
 have ha : L.any (dkIs a b) = true := List.any_eq_true.2 ⟨L[i], List.getElem_mem _, (show dkIs a b L[i] = true from beq_iff_eq.2 hi)⟩
 unfold dkSet
 rw [if_pos ha]
 refine ⟨?_, by rw [List.length_map]⟩
 apply Array.ext'
 apply List.ext_getElem?
 intro j
 simp only [ents, Array.toList_modify, List.getElem?_modify, List.getElem?_mapIdx, List.getElem?_map, Option.map_eq_map]
 by_cases hij : i = j
 ·subst hij
  rw [List.getElem?_eq_getElem hl]
  simp only [Option.map_some, Option.some.injEq, if_true]
  rw [if_pos (show dkIs a b L[i] = true from beq_iff_eq.2 hi)]
  rfl
 cases hq : L[j]? with
 | none => rfl
 | some y =>
  simp only [Option.map_some, Option.some.injEq, if_neg hij]
  have hyn : ¬ dkIs a b y = true := fun hy => by
   obtain ⟨hjl, hjy⟩ := List.getElem?_eq_some_iff.1 hq
   have e1 : y.k = (a, b) := eq_of_beq hy
   have hp := List.pairwise_iff_getElem.1 hk
   rcases Nat.lt_or_gt_of_ne hij with hlt | hlt
   ·exact hp i j hl hjl hlt (by rw [hi, hjy, e1])
   exact hp j i hjl hl hlt (by rw [hi, hjy, e1])
  rw [if_neg hyn]
theorem ents_idx {L : List DRow} {i : Nat} (hl : i < L.length) : (ents L dkKey dkVal).findIdx? (fun e => (e.born : Int) == (i : Int)) = some i := by
 have hs : (ents L dkKey dkVal).size = L.length := by simp [ents]
 rw [Array.findIdx?_eq_some_iff_getElem]
 refine ⟨by rw [hs]; exact hl, ?_, fun j hj => ?_⟩
 ·simp [ents]
 simp [ents]; omega
def ensA (s : AS) : List Oper → Option (AV × AV × AV × Option Tmp)
 | o :: _ => match o.op, o.guard with
  | .entryStore t m k x, none => match ev s [] m, ev s [] k, ev s [] x with
   | some mv, some kv, some xv => some (mv, kv, xv, o.dst)
   | _, _, _ => none
  | _, _ => none
 | [] => none
section
variable {P : Program} {tt : TT} {cx : Cx} {s s' : AS} {Q : Exit → AS → Prop} {ops : Array Oper} {l : List Oper} {enc : Int → List Value}
theorem ENSO (hT : TTok P tt) (id j : Nat) (L : List DRow) (a b : Int) (g : Nat) (i : Nat) (e : TypeId) (li : List Int) (h : ensA s l = some (.s (.v (.map (some g))), .s (.int .i64 (i : Int)), .s (.ref j), none))
  (hf : fnd s.hp id = some (ownX enc e g L a b)) (hj : fnd s.hp j = some (.sl .own e 1 li enc 0)) (hne : Nat.beq id j = false) (hi : ∃ h : i < L.length, (L[i]).k = (a, b))
  (hK : ∀ L', L'.map dkStrip = dkPut (L.map dkStrip) a b li → WPO P cx ops l.tail (({ s with hp := rem (rem s.hp id) j } : AS).add (ownD enc e g L')) Q) : WPO P cx ops l s Q := fun n act w hs => by
 cases l with
 | nil => cases h
 | cons o rest =>
  simp only [ensA] at h
  split at h <;> try (cases h; done)
  rename_i t m k xx ho hg
  split at h <;> try (cases h; done)
  rename_i mv' kv' xv' hm' hk' hx'
  simp only [Option.some.injEq, Prod.mk.injEq] at h
  obtain ⟨rfl, rfl, rfl, hdst⟩ := h
  obtain ⟨hil, hik⟩ := hi
  have hH : Holds act [] := fun x hx => by cases hx
  obtain ⟨e1, _⟩ := ev_sound hs.env hH hm'
  obtain ⟨e2', _⟩ := ev_sound hs.env hH hk'
  obtain ⟨e3, _⟩ := ev_sound hs.env hH hx'
  obtain ⟨hX, hokX, _⟩ := hs.heap.ents _ (fnd_mem hf)
  obtain ⟨henc, hokj, hrow⟩ := hs.heap.ents _ (fnd_mem hj)
  have hij : (id, ownX enc e g L a b) ≠ (j, HE.sl .own e 1 li enc 0) := fun h => by
   have := (Prod.mk.inj h).1; rw [this, Nat.beq_refl] at hne; cases hne
  have hsym : ∀ (x y : Nat × HE), ((x.2.mut = true ∨ y.2.mut = true) → ∀ g, x.2.foot (n x.1) g → ¬ y.2.foot (n y.1) g) → ((y.2.mut = true ∨ x.2.mut = true) → ∀ g, y.2.foot (n y.1) g → ¬ x.2.foot (n x.1) g) :=
   fun x y h hm g h1 h2 => h hm.symm g h2 h1
  have hap : ∀ q, ftX g L a b q → ¬ vblk (n j) = some q := fun q hq hq2 => pw_mem hsym hs.heap.sep (fnd_mem hf) (fnd_mem hj) hij (.inl rfl) q hq hq2
  obtain ⟨hd, hnj⟩ : ∃ hd : Hd, n j = dkVal ⟨(a, b), hd, li⟩ := by
   rcases hrow.2 with ⟨h1, h2⟩ | ⟨q, cap, cur, h1, _⟩
   ·exact ⟨(none, 0), by rw [h1]; show _ = Value.slice none li.length 0; rw [h2]⟩
   exact ⟨(some ⟨q, 0, none⟩, cap), by rw [h1]; rfl⟩
  have hxr : AV.c n (.s (.ref j)) = dkVal ⟨(a, b), hd, li⟩ := hnj
  simp only [AV.c, AC.c] at e2'
  rw [hxr] at e3
  simp only [AV.c, AC.c] at e1
  obtain ⟨es, hes⟩ : ∃ es, ents L dkKey dkVal = es := ⟨_, rfl⟩
  have hset := ents_at (hd := hd) (li := li) hX.keys hil hik
  have hrun : (execOp act.eval o).run P w = .ok .skip (w.putObj g (.map (ents (dkSet L a b hd li) dkKey dkVal) (dkSet L a b hd li).length)) := by
   unfold execOp
   rw [ho]
   simp only [e1, e2', e3, Sem.run_bind, Instr.entryStore, Sem.run_pure, Result.andThen_ok, run_getObj' hX.map, asInt, asIntOf]
   rw [ents_idx hil]
   simp only [run_setObj' hX.map, Sem.run_pure, Result.andThen_ok, Sem.run_bind]
   rw [hset.1, hset.2]
  refine wp_skip1 (wanted_none (ops := ops) hg) hrun ?_
  rw [hdst]
  have hoth : ∀ q, q ≠ g → (w.putObj g (.map (ents (dkSet L a b hd li) dkKey dkVal) (dkSet L a b hd li).length)).heap[q]? = w.heap[q]? := fun q hq => World.putObj_heap_other hq
  have hgs : (w.putObj g (.map (ents (dkSet L a b hd li) dkKey dkVal) (dkSet L a b hd li).length)).heap[g]? = some (.map (ents (dkSet L a b hd li) dkKey dkVal) (dkSet L a b hd li).length) := World.putObj_heap_same (Array.getElem?_eq_some_iff.1 hX.map).1
  generalize hw' : w.putObj g (.map (ents (dkSet L a b hd li) dkKey dkVal) (dkSet L a b hd li).length) = w' at hoth hgs ⊢
  have hz' : w'.heap.size = w.heap.size := by rw [← hw']; exact World.putObj_size
  have hF : (w'.heap[g]? = some (.map (ents (dkSet L a b hd li) dkKey dkVal) (dkSet L a b hd li).length)) ∧ ∀ x ∈ L, x.k ≠ (a, b) → dOwn enc e w' x :=
   ⟨hgs, fun x hx hk => ownsRow_same (hX.rows x hx hk) fun q hq => hoth q fun e => hX.gmr x hx hk (e ▸ hq)⟩
  have hh1 := hs.heap.write (w' := w') (e := .jf (fun w => (w.heap[g]? = some (.map (ents (dkSet L a b hd li) dkKey dkVal) (dkSet L a b hd li).length)) ∧ ∀ x ∈ L, x.k ≠ (a, b) → dOwn enc e w x) (ftX g L a b)) hf rfl (g := g) (.inl rfl) rfl (fun _ => rfl) (Nat.le_refl _) (hokX g (.inl rfl)) hoth hz' (by rw [← hw']; rfl) (by rw [← hw']; rfl) (by rw [← hw']; rfl)
   ⟨hF, hokX, fun w1 w2 h1 hw => ⟨(hw g (.inl rfl)).trans h1.1, fun x hx hk => ownsRow_same (h1.2 x hx hk) fun q hq => hw q (.inr ⟨x, hx, hk, hq⟩)⟩⟩ trivial
  have hh2 := (hh1.rem id).rem j
  have hrr : ({ ({ ({ s with hp := rep s.hp id (.jf (fun w => (w.heap[g]? = some (.map (ents (dkSet L a b hd li) dkKey dkVal) (dkSet L a b hd li).length)) ∧ ∀ x ∈ L, x.k ≠ (a, b) → dOwn enc e w x) (ftX g L a b)) } : AS) with hp := rem (rep s.hp id (.jf (fun w => (w.heap[g]? = some (.map (ents (dkSet L a b hd li) dkKey dkVal) (dkSet L a b hd li).length)) ∧ ∀ x ∈ L, x.k ≠ (a, b) → dOwn enc e w x) (ftX g L a b))) id } : AS) with hp := rem (rem (rep s.hp id (.jf (fun w => (w.heap[g]? = some (.map (ents (dkSet L a b hd li) dkKey dkVal) (dkSet L a b hd li).length)) ∧ ∀ x ∈ L, x.k ≠ (a, b) → dOwn enc e w x) (ftX g L a b))) id) j } : AS) = { s with hp := rem (rem s.hp id) j } := by
   rw [rem_rep]
  have hh3 : HSat cx n { s with hp := rem (rem s.hp id) j } w' := by rw [← hrr]; exact hh2
  have hmem : ∀ x ∈ rem (rem s.hp id) j, x ∈ s.hp ∧ x.1 ≠ id ∧ x.1 ≠ j := fun x hx => ⟨(rem_sub s.hp id).subset ((rem_sub _ j).subset hx), rem_ne ((rem_sub _ j).subset hx), rem_ne hx⟩
  have hft : ∀ q, ftD g (dkSet L a b hd li) q → ftX g L a b q ∨ vblk (n j) = some q := fun q hq => by
   rcases hq with rfl | ⟨x, hx, hb⟩
   ·exact .inl (.inl rfl)
   rcases dkSet_mem hx with rfl | ⟨hx, hk⟩
   ·exact .inr (by rw [hnj]; exact hb)
   exact .inl (.inr ⟨x, hx, hk, hb⟩)
  have hrow' : dOwn enc e w' ⟨(a, b), hd, li⟩ := by
   have h1 := ownsRow_same (w' := w') hrow fun q hq => hoth q fun e => hap q (.inl e) hq
   rw [hnj] at h1
   exact h1
  have hD : OwnD enc e g (dkSet L a b hd li) w' := ⟨hgs, fun x hx => by
    rcases dkSet_mem hx with rfl | ⟨hx, hk⟩
    ·exact hrow'
    exact hF.2 x hx hk,
   dkSet_pw hX.keys (hX.keys.imp fun h _ _ => h) (fun x hx hk => ⟨hk, fun e => hk e.symm⟩),
   dkSet_pw hX.keys hX.sep (fun x hx hk => ⟨fun q hq hq2 => hap q (.inr ⟨x, hx, hk, hq⟩) (by rw [hnj]; exact hq2), fun q hq hq2 => hap q (.inr ⟨x, hx, hk, hq2⟩) (by rw [hnj]; exact hq)⟩),
   fun x hx => by
    rcases dkSet_mem hx with rfl | ⟨hx, hk⟩
    ·exact fun hb => hap g (.inl rfl) (by rw [hnj]; exact hb)
    exact hX.gmr x hx hk⟩
  have hadd := hh3.add (e := ownD enc e g (dkSet L a b hd li)) (v := .nilFunc) (Below.refl _ w') rfl ⟨hD, fun q hq => (hft q hq).elim (hokX q) (hokj q), OwnD.stab⟩ trivial
   (fun q hq => by rw [hz']; exact (hft q hq).elim (hs.heap.lt _ (fnd_mem hf) q) (hs.heap.lt _ (fnd_mem hj) q))
   (fun q hq => .inr fun x hx _ hxq => by
    obtain ⟨hx0, hxi, hxj⟩ := hmem x hx
    rcases hft q hq with h1 | h1
    ·exact pw_mem hsym hs.heap.sep hx0 (fnd_mem hf) (fun e => hxi (by rw [e])) (.inr rfl) q hxq h1
    exact pw_mem hsym hs.heap.sep hx0 (fnd_mem hj) (fun e => hxj (by rw [e])) (.inr rfl) q hxq h1)
  have hm2 : More s { s with hp := rem (rem s.hp id) j } := (rem_more s id).trans (rem_more { s with hp := rem s.hp id } j)
  exact hK _ (dkSet_strip L a b hd li) _ _ _ (env_add (env_hp hs hm2 hh3) (upd_lt n s.nx _) hadd)
def ixvA (tt : TT) (ops : Array Oper) (s : AS) : List Oper → Option (List AC × Int × Nat × Nat × Bool × List (Bool × Bool) × Option Tmp × List (Nat × Bool))
 | o :: _ => match o.op, gTag s ops o with
  | .index t x ix, some T => match tyL tt t, ev s T x, ev s T ix with
   | some ⟨_, _, _, .array m e⟩, some (.g cs), some (.s (.int _ i)) => match tyL tt e with
    | some ei => some (cs, i, m, ei.size, ei.d.ag, tagL s T, o.dst, T)
    | none => none
   | _, _, _ => none
  | _, _ => none
 | [] => none
def ixvP (tt : TT) (ops : Array Oper) (s : AS) (l : List Oper) (r : AV) : Option AS :=
 match ixvA tt ops s l with
 | some (_, _, _, _, _, _, d, T) => s.put d T r
 | none => none
theorem ixv_sound (hT : TTok P tt) {cs : List AC} {i : Int} {m sz : Nat} {ag : Bool} {G : List (Bool × Bool)} {d : Option Tmp} {T : List (Nat × Bool)} (h : ixvA tt ops s l = some (cs, i, m, sz, ag, G, d, T)) : ∃ (o : Oper) (rest : List Oper), l = o :: rest ∧ gTag s ops o = some T ∧ d = o.dst ∧ G = tagL s T ∧
  (0 ≤ i ∧ i < (m : Int) → ∀ r, sub cs (i.toNat * sz) sz ag = some r → ∀ n a w, HSat cx n s w → (∀ x ∈ s.env, EntOk n s a x) → Holds a T → (execOp a.eval o).run P w = .ok (.value (r.c n)) w ∧ r.ok s) := by
 cases l with
 | nil => cases h
 | cons o rest =>
  simp only [ixvA] at h
  split at h <;> try (cases h; done)
  rename_i t x ix T' ho hg
  split at h <;> try (cases h; done)
  rename_i z1 b1 zv m' e cs' k i' ht hx hix
  split at h <;> try (cases h; done)
  rename_i ei hei
  simp only [Option.some.injEq, Prod.mk.injEq] at h
  obtain ⟨rfl, rfl, rfl, rfl, rfl, rfl, rfl, rfl⟩ := h
  refine ⟨o, rest, rfl, hg, rfl, rfl, fun hi r hr n a w hh henv hH => ?_⟩
  obtain ⟨F⟩ := hT.get ht
  obtain ⟨E⟩ := hT.get hei
  have hd : F.desc = .array m' e := by
   have := F.td
   cases hd : F.desc <;> rw [hd] at this <;> simp only [tdOf] at this <;> first
    | (cases this; done)
    | (injection this with h1 h2; rw [h1, h2])
  obtain ⟨e1, e3⟩ := ev_sound henv hH hx
  obtain ⟨e2, _⟩ := ev_sound henv hH hix
  refine ⟨?_, sub_ok e3 hr⟩
  simp only [AV.c, AC.c] at e1 e2
  unfold execOp
  rw [ho]
  simp only [e1, e2, Instr.index, asIntOf, Sem.run_bind, Sem.run_pure, Result.andThen_ok, run_underlying F.hdesc, hd]
  rw [if_pos hi]
  simp only [Sem.run_bind, run_sizeOf' E, Result.andThen_ok, run_part E cs' _ r hr, Sem.run_pure]
theorem IXV (hT : TTok P tt) (cs : List AC) (i : Int) (m sz : Nat) (ag : Bool) (G : List (Bool × Bool)) (r : AV) (h : (ixvA tt ops s l).map (fun z => (z.1, z.2.1, z.2.2.1, z.2.2.2.1, z.2.2.2.2.1, z.2.2.2.2.2.1)) = some (cs, i, m, sz, ag, G))
  (hp : (ixvP tt ops s l r).isSome = true) (hi : AllEq G → 0 ≤ i ∧ i < (m : Int)) (hr : AllEq G → sub cs (i.toNat * sz) sz ag = some r) (hK : WPO P cx ops l.tail ((ixvP tt ops s l r).getD s) Q) : WPO P cx ops l s Q := by
 obtain ⟨⟨cs', i', m', sz', ag', G', d, T⟩, hr', he⟩ := Option.map_eq_some_iff.1 h
 simp only [Prod.mk.injEq] at he
 obtain ⟨rfl, rfl, rfl, rfl, rfl, rfl⟩ := he
 obtain ⟨o, rest, rfl, hg, rfl, rfl, hrun⟩ := ixv_sound (cx := cx) hT hr'
 obtain ⟨s', hs'⟩ := Option.isSome_iff_exists.1 hp
 rw [hs'] at hK
 simp only [ixvP, hr'] at hs'
 exact WPO_val hg hs' (fun hp => hrun (hi (tagP_all hp)) r (hr (tagP_all hp))) hK
def argA (tt : TT) (ops : Array Oper) (s : AS) : List Oper → Option (TypeId × Nat × Int × Nat × Nat × List (Bool × Bool) × Option Tmp × List (Nat × Bool))
 | o :: _ => match o.op, gTag s ops o with
  | .load t x, some T => match ev s T x with
   | some (.s (.pi id i sz off)) => some (t, id, i, sz, off, tagL s T, o.dst, T)
   | _ => none
  | _, _ => none
 | [] => none
def argP (tt : TT) (ops : Array Oper) (s : AS) (l : List Oper) (r : AV) : Option AS :=
 match argA tt ops s l with
 | some (_, _, _, _, _, _, d, T) => s.put d T r
 | none => none
theorem ARDG (hT : TTok P tt) (t : TypeId) (id : Nat) (i : Int) (sz off : Nat) (G : List (Bool × Bool)) (r : AV) (h : (argA tt ops s l).map (fun z => (z.1, z.2.1, z.2.2.1, z.2.2.2.1, z.2.2.2.2.1, z.2.2.2.2.2.1)) = some (t, id, i, sz, off, G))
  (hid : Nat.ble (id + 1) s.nx = true) (hp : (argP tt ops s l r).isSome = true) (hr : AllEq G → ldv tt s t (.s (.p id (i.toNat * sz + off))) = some r) (hK : WPO P cx ops l.tail ((argP tt ops s l r).getD s) Q) : WPO P cx ops l s Q := by
 obtain ⟨⟨t', id', i', sz', off', G', d, T⟩, hr', he⟩ := Option.map_eq_some_iff.1 h
 simp only [Prod.mk.injEq] at he
 obtain ⟨rfl, rfl, rfl, rfl, rfl, rfl⟩ := he
 obtain ⟨s', hs'⟩ := Option.isSome_iff_exists.1 hp
 rw [hs'] at hK
 simp only [argP, hr'] at hs'
 cases l with
 | nil => cases hr'
 | cons o rest =>
  simp only [argA] at hr'
  split at hr' <;> try (cases hr'; done)
  rename_i t2 x T' ho hg
  split at hr' <;> try (cases hr'; done)
  rename_i id2 i2 sz2 off2 hx
  simp only [Option.some.injEq, Prod.mk.injEq] at hr'
  obtain ⟨rfl, rfl, rfl, rfl, rfl, rfl, rfl, rfl⟩ := hr'
  refine WPO_val hg hs' (fun hp n a w hh henv hH => ?_) hK
  obtain ⟨e1, _⟩ := ev_sound henv hH hx
  have hid' : id2 < s.nx := Nat.le_of_ble_eq_true hid
  obtain ⟨h1, h2⟩ := ldv_sound hT hh (t := t2) (u := .s (.p id2 (i2.toNat * sz2 + off2))) hid' (hr (tagP_all hp))
  refine ⟨?_, h2⟩
  have e2 : AV.c n (.s (.pi id2 i2 sz2 off2)) = AV.c n (.s (.p id2 (i2.toNat * sz2 + off2))) := rfl
  rw [e2] at e1
  unfold execOp
  rw [ho]
  simp only [e1, Sem.run_bind, h1, Result.andThen_ok, Sem.run_pure]
end
end Go.Proofs.YtpfglknbkpcfnaaDoor.Eng
namespace Go.Proofs.YtpfglknbkpcfnaaDoor.X
open Go Go.RowKit Go.Proofs.YtpfglknbkpcfnaaDoor.Eng Go.Proofs.YtpfglknbkpcfnaaDoor.Fw
structure LShore where
 fl : Span
 lo : Int
 hi : Int
structure LSound where (hr sh dp : Int)
structure LBook where
 tides : List Span
 shores : LShore × LShore
 empty : Span
 sink : Int
 under : Int
 sounds : List LSound
structure LOpen where
 b : LBook
 can : List (Int × Int)
structure Trip where (load ready : Int)
structure XBook where
 lan : LBook
 fw : Book
 each : Int
 shore : Int
 turn : Int
 trips : List Trip
def zSound : LSound := ⟨0, 0, 0⟩
def zTrip : Trip := ⟨0, 0⟩
def zPr : Int × Int := (0, 0)
def encSpan (x : Span) : List Value := [iv x.lo, iv x.hi]
def encSound (x : LSound) : List Value := [iv x.hr, iv x.sh, iv x.dp]
def encTrip (x : Trip) : List Value := [iv x.load, iv x.ready]
def encPr (x : Int × Int) : List Value := [iv x.1, iv x.2]
def withinL (n : Int) (low : Int) (high : Int) : Bool :=
 (decide (low ≤ n)) && (decide (n ≤ high))
theorem withinL_calls  (n : Int) (low : Int) (high : Int) (w : World)   : Calls Tryd.prog 67 #[iv n, iv low, iv high] w fun e w' => e = .returned (.bool (withinL n low high)) ∧ Below w.heap.size w w' := by
 refine C0 tt_ok [.s (.int .i64 n), .s (.int .i64 low), .s (.int .i64 high)] Tryd.func67 rfl rfl rfl ?_
 refine WSA tt_ok ?_
 refine WSA tt_ok ?_
 refine WP_ret ?_
 exact ⟨.s (.bool ((decide (low ≤ n)) && (decide (n ≤ high)))), by kernel_rfl, fun nV w' h => ⟨by rw [show withinL n low high = ((decide (low ≤ n)) && (decide (n ≤ high))) from rfl]; rfl, h.bel⟩⟩
def isSpanL (s : Span) (low : Int) (high : Int) : Bool :=
 (((decide (low ≤ s.lo)) && (decide (s.lo ≤ s.hi))) && (decide (s.hi ≤ high))) && (decide ((IntKind.i64.wrap (s.hi - s.lo)) ≤ 4))
theorem isSpanL_calls  (s : Span) (low : Int) (high : Int) (w : World)   : Calls Tryd.prog 68 #[.agg #[iv s.lo, iv s.hi], iv low, iv high] w fun e w' => e = .returned (.bool (isSpanL s low high)) ∧ Below w.heap.size w w' := by
 refine C0 tt_ok [.g [.int .i64 s.lo, .int .i64 s.hi], .s (.int .i64 low), .s (.int .i64 high)] Tryd.func68 rfl rfl rfl ?_
 refine WSA tt_ok ?_
 refine WSA tt_ok ?_
 refine WP_ret ?_
 exact ⟨.s (.bool ((((decide (low ≤ s.lo)) && (decide (s.lo ≤ s.hi))) && (decide (s.hi ≤ high))) && (decide ((IntKind.i64.wrap (s.hi - s.lo)) ≤ 4)))), by kernel_rfl, fun nV w' h => ⟨by rw [show isSpanL s low high = ((((decide (low ≤ s.lo)) && (decide (s.lo ≤ s.hi))) && (decide (s.hi ≤ high))) && (decide ((IntKind.i64.wrap (s.hi - s.lo)) ≤ 4))) from rfl]; rfl, h.bel⟩⟩
def isHourL (x : LBook) (n : Int) : Bool :=
 (withinL n 0 (IntKind.i64.wrap ((x.tides.length : Int) - 1)))
theorem isHourL_calls (g0 g1 : Value) (x : LBook) (n : Int) (w : World) (r0 : Reads w g0 2 x.tides encSpan zSpan) (r1 : Reads w g1 3 x.sounds encSound zSound)  : Calls Tryd.prog 69 #[.agg #[g0, iv x.shores.1.fl.lo, iv x.shores.1.fl.hi, iv x.shores.1.lo, iv x.shores.1.hi, iv x.shores.2.fl.lo, iv x.shores.2.fl.hi, iv x.shores.2.lo, iv x.shores.2.hi, iv x.empty.lo, iv x.empty.hi, iv x.sink, iv x.under, g1], iv n] w fun e w' => e = .returned (.bool (isHourL x n)) ∧ Below w.heap.size w w' := by
 refine CW tt_ok [g0, g1] 2 [.g [.ref 0, .int .i64 x.shores.1.fl.lo, .int .i64 x.shores.1.fl.hi, .int .i64 x.shores.1.lo, .int .i64 x.shores.1.hi, .int .i64 x.shores.2.fl.lo, .int .i64 x.shores.2.fl.hi, .int .i64 x.shores.2.lo, .int .i64 x.shores.2.hi, .int .i64 x.empty.lo, .int .i64 x.empty.hi, .int .i64 x.sink, .int .i64 x.under, .ref 1], .s (.int .i64 n)] [(0, .sl .ro 24 2 x.tides encSpan zSpan), (1, .sl .ro 112 3 x.sounds encSound zSound)] 2 Tryd.func69 rfl rfl rfl (by simp [r0.one, r1.one]) ⟨ro_in r0, ro_in r1, trivial⟩ ?_
 have hl0 := Reads.len r0
 have hl1 := Reads.len r1
 refine WSA tt_ok ?_
 refine WSR tt_ok 5 ?_
 refine CAL 67 [.s (.int .i64 n), .s (.int .i64 0), .s (.int .i64 (IntKind.i64.wrap ((x.tides.length : Int) - 1)))] (.s (.bool (withinL n 0 (IntKind.i64.wrap ((x.tides.length : Int) - 1))))) [] (fun hG nV w h => withinL_calls  n 0 (IntKind.i64.wrap ((x.tides.length : Int) - 1)) w  ) ?_
 refine WPA tt_ok ?_
 refine WP_ret ?_
 exact ⟨.s (.bool (withinL n 0 (IntKind.i64.wrap ((x.tides.length : Int) - 1)))), by kernel_rfl, fun nV w' h => ⟨by rw [show isHourL x n = (withinL n 0 (IntKind.i64.wrap ((x.tides.length : Int) - 1))) from rfl]; rfl, h.bel⟩⟩
def isShoreL (n : Int) : Bool :=
 (withinL n 0 1)
theorem isShoreL_calls  (n : Int) (w : World)   : Calls Tryd.prog 70 #[iv n] w fun e w' => e = .returned (.bool (isShoreL n)) ∧ Below w.heap.size w w' := by
 refine C0 tt_ok [.s (.int .i64 n)] Tryd.func70 rfl rfl rfl ?_
 refine WSA tt_ok ?_
 refine WSR tt_ok 1 ?_
 refine CAL 67 [.s (.int .i64 n), .s (.int .i64 0), .s (.int .i64 1)] (.s (.bool (withinL n 0 1))) [] (fun hG nV w h => withinL_calls  n 0 1 w  ) ?_
 refine WPA tt_ok ?_
 refine WP_ret ?_
 exact ⟨.s (.bool (withinL n 0 1)), by kernel_rfl, fun nV w' h => ⟨by rw [show isShoreL n = (withinL n 0 1) from rfl]; rfl, h.bel⟩⟩
def isLoadL (n : Int) : Bool :=
 (withinL n 0 200)
theorem isLoadL_calls  (n : Int) (w : World)   : Calls Tryd.prog 83 #[iv n] w fun e w' => e = .returned (.bool (isLoadL n)) ∧ Below w.heap.size w w' := by
 refine C0 tt_ok [.s (.int .i64 n)] Tryd.func83 rfl rfl rfl ?_
 refine WSA tt_ok ?_
 refine WSR tt_ok 1 ?_
 refine CAL 67 [.s (.int .i64 n), .s (.int .i64 0), .s (.int .i64 200)] (.s (.bool (withinL n 0 200))) [] (fun hG nV w h => withinL_calls  n 0 200 w  ) ?_
 refine WPA tt_ok ?_
 refine WP_ret ?_
 exact ⟨.s (.bool (withinL n 0 200)), by kernel_rfl, fun nV w' h => ⟨by rw [show isLoadL n = (withinL n 0 200) from rfl]; rfl, h.bel⟩⟩
def checkL_c1 (b : LBook) (k1 : Nat) : Bool → Bool := fun v1_1 => decide ((k1 : Int) < (b.tides.length : Int))
def checkL_b1 (b : LBook) (k1 : Nat) : Bool → Bd Bool Int := fun v1_1 => .go (v1_1 && (isSpanL (b.tides.getD k1 zSpan) (-40) 80))
def checkL_c2 (b : LBook) (u1_0 : Bool) (k2 : Nat) : Bool → Bool := fun v2_1 => decide ((k2 : Int) < 2)
def checkL_b2 (b : LBook) (u1_0 : Bool) (k2 : Nat) : Bool → Bd Bool Int := fun v2_1 => .go (((v2_1 && (isSpanL (pix b.shores (k2 : Int)).fl (-40) 80)) && (withinL (pix b.shores (k2 : Int)).lo (-40) (pix b.shores (k2 : Int)).hi)) && (decide ((pix b.shores (k2 : Int)).hi ≤ 80)))
def checkL_c3 (b : LBook) (u1_0 : Bool) (u2_0 : Bool) (k3 : Nat) : Bool → Bool := fun v3_1 => decide ((k3 : Int) < (b.sounds.length : Int))
def checkL_b3 (b : LBook) (u1_0 : Bool) (u2_0 : Bool) (k3 : Nat) : Bool → Bd Bool Int := fun v3_1 => .go (((v3_1 && (isHourL b (b.sounds.getD k3 zSound).hr)) && (isShoreL (b.sounds.getD k3 zSound).sh)) && (withinL (b.sounds.getD k3 zSound).dp 0 120))
def checkL (b : LBook) : Int :=
 (match loopR (checkL_c1 b) (checkL_b1 b) b.tides.length 0 (((((withinL (b.tides.length : Int) 1 24) && (isSpanL b.empty 0 40)) && (withinL b.sink 1 20)) && (withinL b.under 0 10)) && (decide ((b.sounds.length : Int) ≤ 6))) with | .brk u1_0 => (match loopR (checkL_c2 b u1_0) (checkL_b2 b u1_0) 2 0 u1_0 with | .brk u2_0 => (match loopR (checkL_c3 b u1_0 u2_0) (checkL_b3 b u1_0 u2_0) b.sounds.length 0 u2_0 with | .brk u3_0 => (bif !u3_0 then 20 else 0) | .ret r => r) | .ret r => r) | .ret r => r)
theorem checkL_calls (g0 g1 : Value) (b : LBook) (w : World) (r0 : Reads w g0 2 b.tides encSpan zSpan) (r1 : Reads w g1 3 b.sounds encSound zSound)  : Calls Tryd.prog 43 #[.agg #[g0, iv b.shores.1.fl.lo, iv b.shores.1.fl.hi, iv b.shores.1.lo, iv b.shores.1.hi, iv b.shores.2.fl.lo, iv b.shores.2.fl.hi, iv b.shores.2.lo, iv b.shores.2.hi, iv b.empty.lo, iv b.empty.hi, iv b.sink, iv b.under, g1]] w fun e w' => e = .returned (iv (checkL b)) ∧ Below w.heap.size w w' := by
 refine CW tt_ok [g0, g1] 2 [.g [.ref 0, .int .i64 b.shores.1.fl.lo, .int .i64 b.shores.1.fl.hi, .int .i64 b.shores.1.lo, .int .i64 b.shores.1.hi, .int .i64 b.shores.2.fl.lo, .int .i64 b.shores.2.fl.hi, .int .i64 b.shores.2.lo, .int .i64 b.shores.2.hi, .int .i64 b.empty.lo, .int .i64 b.empty.hi, .int .i64 b.sink, .int .i64 b.under, .ref 1]] [(0, .sl .ro 24 2 b.tides encSpan zSpan), (1, .sl .ro 112 3 b.sounds encSound zSound)] 2 Tryd.func43 rfl rfl rfl (by simp [r0.one, r1.one]) ⟨ro_in r0, ro_in r1, trivial⟩ ?_
 have hl0 := Reads.len r0
 have hl1 := Reads.len r1
 refine WSA tt_ok ?_
 refine WSR tt_ok 3 ?_
 refine CAL 67 [.s (.int .i64 (b.tides.length : Int)), .s (.int .i64 1), .s (.int .i64 24)] (.s (.bool (withinL (b.tides.length : Int) 1 24))) [] (fun hG nV w h => withinL_calls  (b.tides.length : Int) 1 24 w  ) ?_
 refine WPO_run tt_ok 3 (by kernel_rfl) ?_
 refine CAL 68 [.g [.int .i64 b.empty.lo, .int .i64 b.empty.hi], .s (.int .i64 0), .s (.int .i64 40)] (.s (.bool (isSpanL b.empty 0 40))) [((withinL (b.tides.length : Int) 1 24), true)] (fun hG nV w h => isSpanL_calls  b.empty 0 40 w  ) ?_
 refine WPO_run tt_ok 4 (by kernel_rfl) ?_
 refine CAL 67 [.s (.int .i64 b.sink), .s (.int .i64 1), .s (.int .i64 20)] (.s (.bool (withinL b.sink 1 20))) [((withinL (b.tides.length : Int) 1 24) && (isSpanL b.empty 0 40), true)] (fun hG nV w h => withinL_calls  b.sink 1 20 w  ) ?_
 refine WPO_run tt_ok 4 (by kernel_rfl) ?_
 refine CAL 67 [.s (.int .i64 b.under), .s (.int .i64 0), .s (.int .i64 10)] (.s (.bool (withinL b.under 0 10))) [(((withinL (b.tides.length : Int) 1 24) && (isSpanL b.empty 0 40)) && (withinL b.sink 1 20), true)] (fun hG nV w h => withinL_calls  b.under 0 10 w  ) ?_
 refine WPA tt_ok ?_
 refine WP_seq (WSA tt_ok ?_)
 refine WP_loopA (ρ := Int) (checkL_c1 b) (checkL_b1 b) b.tides.length (((((withinL (b.tides.length : Int) 1 24) && (isSpanL b.empty 0 40)) && (withinL b.sink 1 20)) && (withinL b.under 0 10)) && (decide ((b.sounds.length : Int) ≤ 6))) (fun k : Nat => (k : Int)) (fun (ci : Int) (zz : Bool) => ⟨99, [(38, [], .s (.int .i64 ci)), (37, [], .s (.int .i64 (b.tides.length : Int))), (36, [], .s (.ref 0)), (3, [], .s (.bool zz)), (1, [], .s (.p 2 0))], [(2, .box 30 [.ref 0, .int .i64 b.shores.1.fl.lo, .int .i64 b.shores.1.fl.hi, .int .i64 b.shores.1.lo, .int .i64 b.shores.1.hi, .int .i64 b.shores.2.fl.lo, .int .i64 b.shores.2.fl.hi, .int .i64 b.shores.2.lo, .int .i64 b.shores.2.hi, .int .i64 b.empty.lo, .int .i64 b.empty.hi, .int .i64 b.sink, .int .i64 b.under, .ref 1]), (0, .sl .ro 24 2 b.tides encSpan zSpan), (1, .sl .ro 112 3 b.sounds encSound zSound)], 3, []⟩) (fun zz : Bool => ⟨99, [(3, [], .s (.bool zz)), (1, [], .s (.p 2 0))], [(2, .box 30 [.ref 0, .int .i64 b.shores.1.fl.lo, .int .i64 b.shores.1.fl.hi, .int .i64 b.shores.1.lo, .int .i64 b.shores.1.hi, .int .i64 b.shores.2.fl.lo, .int .i64 b.shores.2.fl.hi, .int .i64 b.shores.2.lo, .int .i64 b.shores.2.hi, .int .i64 b.empty.lo, .int .i64 b.empty.hi, .int .i64 b.sink, .int .i64 b.under, .ref 1]), (0, .sl .ro 24 2 b.tides encSpan zSpan), (1, .sl .ro 112 3 b.sounds encSound zSound)], 3, []⟩) (fun k zz => True) trivial ⟨0, rfl, Le_sel (ts := [38, 37, 36, 3, 1]) (ids := [2, 0, 1]) (nx := 3) (by kernel_rfl)⟩ ?_ ?_
 ·intro k1 v1_1 hn1 hp1 hi1 Q1 hq1 ho1
  refine WSA tt_ok ?_
  refine WP_seq (WP_cond (decide ((k1 : Int) < (b.tides.length : Int))) (by kernel_rfl) (fun hc1 => ?_) (fun hc1 => ?_))
  rotate_left
  ·refine WP_exit ?_
   show Q1 (.exit 0) _
   exact LA_exit hq1 v1_1 (loopR_end hi1 hc1) ⟨k1, hn1, hp1⟩ (Le_sel (ts := [3, 1]) (ids := [2, 0, 1]) (nx := 3) (by kernel_rfl))
  have hc1' := of_decide_eq_true hc1
  have hk1 : k1 < b.tides.length := by omega
  refine WP_skip ?_
  refine WP_seq (WP_block ?_)
  refine WP_seq (WP_region (IX tt_ok (k1 : Int) b.tides.length [] (by kernel_rfl) (fun hG => ⟨by omega, by omega⟩) ?_))
  refine WPA tt_ok ?_
  refine WP_region (WPO_run tt_ok 3 (by kernel_rfl) ?_)
  refine CAL 68 [.g [.int .i64 (b.tides.getD k1 zSpan).lo, .int .i64 (b.tides.getD k1 zSpan).hi], .s (.int .i64 (-40)), .s (.int .i64 80)] (.s (.bool (isSpanL (b.tides.getD k1 zSpan) (-40) 80))) [(v1_1, true)] (fun hG nV w h => isSpanL_calls  (b.tides.getD k1 zSpan) (-40) 80 w  ) ?_
  refine WPA tt_ok ?_
  refine WRA tt_ok ?_
  show Q1 .normal _
  exact LA_go hq1 (ci := IntKind.i64.wrap ((k1 : Int) + 1)) (v1_1 && (isSpanL (b.tides.getD k1 zSpan) (-40) 80)) hk1 (by show _ = ((k1 + 1 : Nat) : Int); rw [wrapI (by omega) (by omega)]; omega) (loopR_go hi1 hk1 hc1 (rfl)) trivial (Le_sel (ts := [38, 37, 36, 3, 1]) (ids := [2, 0, 1]) (nx := 3) (by kernel_rfl))
 intro u1_0 hR1 hP1 s' hl
 refine WP_le hl ?_
 clear hl s'
 refine WP_seq (WSA tt_ok ?_)
 refine WP_loopA (ρ := Int) (checkL_c2 b u1_0) (checkL_b2 b u1_0) 2 u1_0 (fun k : Nat => (k : Int)) (fun (ci : Int) (zz : Bool) => ⟨99, [(50, [], .s (.int .i64 ci)), (49, [], .g [.int .i64 b.shores.1.fl.lo, .int .i64 b.shores.1.fl.hi, .int .i64 b.shores.1.lo, .int .i64 b.shores.1.hi, .int .i64 b.shores.2.fl.lo, .int .i64 b.shores.2.fl.hi, .int .i64 b.shores.2.lo, .int .i64 b.shores.2.hi]), (3, [], .s (.bool zz)), (1, [], .s (.p 2 0))], [(2, .box 30 [.ref 0, .int .i64 b.shores.1.fl.lo, .int .i64 b.shores.1.fl.hi, .int .i64 b.shores.1.lo, .int .i64 b.shores.1.hi, .int .i64 b.shores.2.fl.lo, .int .i64 b.shores.2.fl.hi, .int .i64 b.shores.2.lo, .int .i64 b.shores.2.hi, .int .i64 b.empty.lo, .int .i64 b.empty.hi, .int .i64 b.sink, .int .i64 b.under, .ref 1]), (0, .sl .ro 24 2 b.tides encSpan zSpan), (1, .sl .ro 112 3 b.sounds encSound zSound)], 3, []⟩) (fun zz : Bool => ⟨99, [(3, [], .s (.bool zz)), (1, [], .s (.p 2 0))], [(2, .box 30 [.ref 0, .int .i64 b.shores.1.fl.lo, .int .i64 b.shores.1.fl.hi, .int .i64 b.shores.1.lo, .int .i64 b.shores.1.hi, .int .i64 b.shores.2.fl.lo, .int .i64 b.shores.2.fl.hi, .int .i64 b.shores.2.lo, .int .i64 b.shores.2.hi, .int .i64 b.empty.lo, .int .i64 b.empty.hi, .int .i64 b.sink, .int .i64 b.under, .ref 1]), (0, .sl .ro 24 2 b.tides encSpan zSpan), (1, .sl .ro 112 3 b.sounds encSound zSound)], 3, []⟩) (fun k zz => True) trivial ⟨0, rfl, Le_sel (ts := [50, 49, 3, 1]) (ids := [2, 0, 1]) (nx := 3) (by kernel_rfl)⟩ ?_ ?_
 ·intro k2 v2_1 hn2 hp2 hi2 Q2 hq2 ho2
  refine WSA tt_ok ?_
  refine WP_seq (WP_cond (decide ((k2 : Int) < 2)) (by kernel_rfl) (fun hc2 => ?_) (fun hc2 => ?_))
  rotate_left
  ·refine WP_exit ?_
   show Q2 (.exit 2) _
   exact LA_exit hq2 v2_1 (loopR_end hi2 hc2) ⟨k2, hn2, hp2⟩ (Le_sel (ts := [3, 1]) (ids := [2, 0, 1]) (nx := 3) (by kernel_rfl))
  have hc2' := of_decide_eq_true hc2
  have hk2 : k2 < 2 := by omega
  refine WP_skip ?_
  refine WP_seq (WP_block ?_)
  refine WP_seq (WP_region (IXV tt_ok [.int .i64 b.shores.1.fl.lo, .int .i64 b.shores.1.fl.hi, .int .i64 b.shores.1.lo, .int .i64 b.shores.1.hi, .int .i64 b.shores.2.fl.lo, .int .i64 b.shores.2.fl.hi, .int .i64 b.shores.2.lo, .int .i64 b.shores.2.hi] (k2 : Int) 2 4 true [] (.g [.int .i64 (pix b.shores (k2 : Int)).fl.lo, .int .i64 (pix b.shores (k2 : Int)).fl.hi, .int .i64 (pix b.shores (k2 : Int)).lo, .int .i64 (pix b.shores (k2 : Int)).hi]) (by kernel_rfl) (by kernel_rfl) (fun hG => (by (try simp only [AllEq, and_true, Bool.and_eq_true, Bool.or_eq_true, Bool.not_eq_true', decide_eq_true_eq, decide_eq_false_iff_not] at hG); constructor <;> omega)) (fun hG => (by rcases (show (k2 : Int) = 0 ∨ (k2 : Int) = 1 by omega) with h | h <;> rw [h] <;> kernel_rfl)) ?_))
  refine WPA tt_ok ?_
  refine WP_region (WPO_run tt_ok 4 (by kernel_rfl) ?_)
  refine CAL 68 [.g [.int .i64 (pix b.shores (k2 : Int)).fl.lo, .int .i64 (pix b.shores (k2 : Int)).fl.hi], .s (.int .i64 (-40)), .s (.int .i64 80)] (.s (.bool (isSpanL (pix b.shores (k2 : Int)).fl (-40) 80))) [(v2_1, true)] (fun hG nV w h => isSpanL_calls  (pix b.shores (k2 : Int)).fl (-40) 80 w  ) ?_
  refine WPO_run tt_ok 6 (by kernel_rfl) ?_
  refine CAL 67 [.s (.int .i64 (pix b.shores (k2 : Int)).lo), .s (.int .i64 (-40)), .s (.int .i64 (pix b.shores (k2 : Int)).hi)] (.s (.bool (withinL (pix b.shores (k2 : Int)).lo (-40) (pix b.shores (k2 : Int)).hi))) [(v2_1 && (isSpanL (pix b.shores (k2 : Int)).fl (-40) 80), true)] (fun hG nV w h => withinL_calls  (pix b.shores (k2 : Int)).lo (-40) (pix b.shores (k2 : Int)).hi w  ) ?_
  refine WPA tt_ok ?_
  refine WRA tt_ok ?_
  show Q2 .normal _
  exact LA_go hq2 (ci := IntKind.i64.wrap ((k2 : Int) + 1)) (((v2_1 && (isSpanL (pix b.shores (k2 : Int)).fl (-40) 80)) && (withinL (pix b.shores (k2 : Int)).lo (-40) (pix b.shores (k2 : Int)).hi)) && (decide ((pix b.shores (k2 : Int)).hi ≤ 80))) hk2 (by show _ = ((k2 + 1 : Nat) : Int); rw [wrapI (by omega) (by omega)]; omega) (loopR_go hi2 hk2 hc2 (rfl)) trivial (Le_sel (ts := [50, 49, 3, 1]) (ids := [2, 0, 1]) (nx := 3) (by kernel_rfl))
 intro u2_0 hR2 hP2 s' hl
 refine WP_le hl ?_
 clear hl s'
 refine WP_seq (WSA tt_ok ?_)
 refine WP_loopA (ρ := Int) (checkL_c3 b u1_0 u2_0) (checkL_b3 b u1_0 u2_0) b.sounds.length u2_0 (fun k : Nat => (k : Int)) (fun (ci : Int) (zz : Bool) => ⟨99, [(75, [], .s (.int .i64 ci)), (74, [], .s (.int .i64 (b.sounds.length : Int))), (73, [], .s (.ref 1)), (3, [], .s (.bool zz)), (1, [], .s (.p 2 0))], [(2, .box 30 [.ref 0, .int .i64 b.shores.1.fl.lo, .int .i64 b.shores.1.fl.hi, .int .i64 b.shores.1.lo, .int .i64 b.shores.1.hi, .int .i64 b.shores.2.fl.lo, .int .i64 b.shores.2.fl.hi, .int .i64 b.shores.2.lo, .int .i64 b.shores.2.hi, .int .i64 b.empty.lo, .int .i64 b.empty.hi, .int .i64 b.sink, .int .i64 b.under, .ref 1]), (0, .sl .ro 24 2 b.tides encSpan zSpan), (1, .sl .ro 112 3 b.sounds encSound zSound)], 3, []⟩) (fun zz : Bool => ⟨99, [(3, [], .s (.bool zz))], [(2, .box 30 [.ref 0, .int .i64 b.shores.1.fl.lo, .int .i64 b.shores.1.fl.hi, .int .i64 b.shores.1.lo, .int .i64 b.shores.1.hi, .int .i64 b.shores.2.fl.lo, .int .i64 b.shores.2.fl.hi, .int .i64 b.shores.2.lo, .int .i64 b.shores.2.hi, .int .i64 b.empty.lo, .int .i64 b.empty.hi, .int .i64 b.sink, .int .i64 b.under, .ref 1]), (0, .sl .ro 24 2 b.tides encSpan zSpan), (1, .sl .ro 112 3 b.sounds encSound zSound)], 3, []⟩) (fun k zz => True) trivial ⟨0, rfl, Le_sel (ts := [75, 74, 73, 3, 1]) (ids := [2, 0, 1]) (nx := 3) (by kernel_rfl)⟩ ?_ ?_
 ·intro k3 v3_1 hn3 hp3 hi3 Q3 hq3 ho3
  refine WSA tt_ok ?_
  refine WP_seq (WP_cond (decide ((k3 : Int) < (b.sounds.length : Int))) (by kernel_rfl) (fun hc3 => ?_) (fun hc3 => ?_))
  rotate_left
  ·refine WP_exit ?_
   show Q3 (.exit 4) _
   exact LA_exit hq3 v3_1 (loopR_end hi3 hc3) ⟨k3, hn3, hp3⟩ (Le_sel (ts := [3]) (ids := [2, 0, 1]) (nx := 3) (by kernel_rfl))
  have hc3' := of_decide_eq_true hc3
  have hk3 : k3 < b.sounds.length := by omega
  refine WP_skip ?_
  refine WP_seq (WP_block ?_)
  refine WP_seq (WP_region (IX tt_ok (k3 : Int) b.sounds.length [] (by kernel_rfl) (fun hG => ⟨by omega, by omega⟩) ?_))
  refine WPA tt_ok ?_
  refine WP_region (WPO_run tt_ok 5 (by kernel_rfl) ?_)
  refine CAL 69 [.g [.ref 0, .int .i64 b.shores.1.fl.lo, .int .i64 b.shores.1.fl.hi, .int .i64 b.shores.1.lo, .int .i64 b.shores.1.hi, .int .i64 b.shores.2.fl.lo, .int .i64 b.shores.2.fl.hi, .int .i64 b.shores.2.lo, .int .i64 b.shores.2.hi, .int .i64 b.empty.lo, .int .i64 b.empty.hi, .int .i64 b.sink, .int .i64 b.under, .ref 1], .s (.int .i64 (b.sounds.getD k3 zSound).hr)] (.s (.bool (isHourL b (b.sounds.getD k3 zSound).hr))) [(v3_1, true)] (fun hG nV w h => isHourL_calls (nV 0) (nV 1) b (b.sounds.getD k3 zSound).hr w (h.rd 0 24) (h.rd 1 112) ) ?_
  refine WPO_run tt_ok 4 (by kernel_rfl) ?_
  refine CAL 70 [.s (.int .i64 (b.sounds.getD k3 zSound).sh)] (.s (.bool (isShoreL (b.sounds.getD k3 zSound).sh))) [(v3_1 && (isHourL b (b.sounds.getD k3 zSound).hr), true)] (fun hG nV w h => isShoreL_calls  (b.sounds.getD k3 zSound).sh w  ) ?_
  refine WPO_run tt_ok 4 (by kernel_rfl) ?_
  refine CAL 67 [.s (.int .i64 (b.sounds.getD k3 zSound).dp), .s (.int .i64 0), .s (.int .i64 120)] (.s (.bool (withinL (b.sounds.getD k3 zSound).dp 0 120))) [((v3_1 && (isHourL b (b.sounds.getD k3 zSound).hr)) && (isShoreL (b.sounds.getD k3 zSound).sh), true)] (fun hG nV w h => withinL_calls  (b.sounds.getD k3 zSound).dp 0 120 w  ) ?_
  refine WPA tt_ok ?_
  refine WRA tt_ok ?_
  show Q3 .normal _
  exact LA_go hq3 (ci := IntKind.i64.wrap ((k3 : Int) + 1)) (((v3_1 && (isHourL b (b.sounds.getD k3 zSound).hr)) && (isShoreL (b.sounds.getD k3 zSound).sh)) && (withinL (b.sounds.getD k3 zSound).dp 0 120)) hk3 (by show _ = ((k3 + 1 : Nat) : Int); rw [wrapI (by omega) (by omega)]; omega) (loopR_go hi3 hk3 hc3 (rfl)) trivial (Le_sel (ts := [75, 74, 73, 3, 1]) (ids := [2, 0, 1]) (nx := 3) (by kernel_rfl))
 intro u3_0 hR3 hP3 s' hl
 refine WP_le hl ?_
 clear hl s'
 refine WP_seq (WSA tt_ok ?_)
 refine WP_cond (!u3_0) (by kernel_rfl) (fun hc5 => ?_) (fun hc5 => ?_)
 ·have hc5' := hc5; try simp only [bfs, ne_eq] at hc5'
  refine WSA tt_ok ?_
  refine WP_ret ?_
  exact ⟨.s (.int .i64 20), by kernel_rfl, fun nV w' h => ⟨by rw [show checkL b = 20 from by unfold checkL; simp only [hR1, hR2, hR3, hc5, cond_true, cond_false]]; rfl, h.bel⟩⟩
 have hc5' := hc5; try simp only [bfs, ne_eq] at hc5'
 refine WP_skip ?_
 refine WSA tt_ok ?_
 refine WP_ret ?_
 exact ⟨.s (.int .i64 0), by kernel_rfl, fun nV w' h => ⟨by rw [show checkL b = 0 from by unfold checkL; simp only [hR1, hR2, hR3, hc5, cond_true, cond_false]]; rfl, h.bel⟩⟩
abbrev lanC (a : AC) (x : LBook) (r : List AC) : List AC := a :: .int .i64 x.shores.1.fl.lo :: .int .i64 x.shores.1.fl.hi :: .int .i64 x.shores.1.lo :: .int .i64 x.shores.1.hi :: .int .i64 x.shores.2.fl.lo :: .int .i64 x.shores.2.fl.hi :: .int .i64 x.shores.2.lo :: .int .i64 x.shores.2.hi :: .int .i64 x.empty.lo :: .int .i64 x.empty.hi :: .int .i64 x.sink :: .int .i64 x.under :: r
abbrev xC (a : AC) (b : XBook) (c d e f m : AC) : List AC := lanC a b.lan [c, d, .int .i64 b.fw.hear.lo, .int .i64 b.fw.hear.hi, .int .i64 b.fw.br, .int .i64 b.fw.cr, .int .i64 b.fw.sl, e, .int .i64 b.each, .int .i64 b.shore, .int .i64 b.turn, f, m]
abbrev xD (a : AC) (b : XBook) (c d e f : AC) : List AC := lanC a b.lan [c, d, .int .i64 b.fw.hear.lo, .int .i64 b.fw.hear.hi, .int .i64 b.fw.br, .int .i64 b.fw.cr, .int .i64 b.fw.sl, e, .int .i64 b.each, .int .i64 b.shore, .int .i64 b.turn, f]
abbrev xR (b : XBook) (gm : Nat) : List AC := xC (.ref 0) b (.ref 1) (.ref 2) (.ref 3) (.ref 4) (.v (.map (some gm)))
abbrev xQ (b : XBook) : List AC := lanC (.ref 0) b.lan [.ref 1, .ref 2, .int .i64 b.fw.hear.lo, .int .i64 b.fw.hear.hi, .int .i64 b.fw.br, .int .i64 b.fw.cr, .int .i64 b.fw.sl, .ref 3, .int .i64 b.each, .int .i64 b.shore, .int .i64 b.turn, .ref 4]
abbrev zX : List AC := [.v (.slice none 0 0), .int .i64 0, .int .i64 0, .int .i64 0, .int .i64 0, .int .i64 0, .int .i64 0, .int .i64 0, .int .i64 0, .int .i64 0, .int .i64 0, .int .i64 0, .int .i64 0, .v (.slice none 0 0), .v (.slice none 0 0), .int .i64 0, .int .i64 0, .int .i64 0, .int .i64 0, .int .i64 0, .v (.slice none 0 0), .int .i64 0, .int .i64 0, .int .i64 0, .v (.slice none 0 0), .v (.map none)]
abbrev zM : List AC := [.v (.slice none 0 0), .int .i64 0, .int .i64 0, .int .i64 0, .int .i64 0, .int .i64 0, .int .i64 0, .int .i64 0, .int .i64 0, .int .i64 0, .int .i64 0, .int .i64 0, .int .i64 0, .v (.slice none 0 0), .v (.map none), .v (.slice none 0 0)]
abbrev wl (b c : XBook) : XBook := (⟨(⟨b.lan.tides, c.lan.shores, c.lan.empty, c.lan.sink, c.lan.under, b.lan.sounds⟩ : LBook), c.fw, c.each, c.shore, c.turn, b.trips⟩ : XBook)
abbrev lR (x : LBook) : List AC := lanC (.ref 0) x [.ref 1]
abbrev lanV (a : Value) (x : LBook) (r : List Value) : List Value := a :: iv x.shores.1.fl.lo :: iv x.shores.1.fl.hi :: iv x.shores.1.lo :: iv x.shores.1.hi :: iv x.shores.2.fl.lo :: iv x.shores.2.fl.hi :: iv x.shores.2.lo :: iv x.shores.2.hi :: iv x.empty.lo :: iv x.empty.hi :: iv x.sink :: iv x.under :: r
abbrev xV (a : Value) (b : XBook) (c d e f : Value) : List Value := lanV a b.lan [c, d, iv b.fw.hear.lo, iv b.fw.hear.hi, iv b.fw.br, iv b.fw.cr, iv b.fw.sl, e, iv b.each, iv b.shore, iv b.turn, f]
abbrev roL (x : LBook) (r : List (Nat × HE)) : List (Nat × HE) := (0, .sl .ro 24 2 x.tides encSpan zSpan) :: (1, .sl .ro 112 3 x.sounds encSound zSound) :: r
abbrev roX (b : XBook) (r : List (Nat × HE)) : List (Nat × HE) := roL b.lan ((2, .sl .ro 103 5 b.fw.ships encShip zShip) :: (3, .sl .ro 105 4 b.fw.sights encSight zSight) :: (4, .sl .ro 60 2 b.trips encTrip zTrip) :: r)
end Go.Proofs.YtpfglknbkpcfnaaDoor.X
namespace Go.Proofs.YtpfglknbkpcfnaaDoor.Eng
open Go Go.RowKit
theorem DeepAt.lt {enc : Int → List Value} {gm : Nat} {L : List DRow} {w : World} (h : DeepAt enc gm L w) (g : Nat) (hg : ftR gm L g) : g < w.heap.size := by
 rcases hg with rfl | ⟨x, hx, hb, hp⟩
 ·exact (Array.getElem?_eq_some_iff.1 h.map).1
 exact reads_lt (h.rows x hx) hp (by decide) g hb
section
variable {P : Program} {tt : TT} {cx : Cx} {s s' : AS} {Q : Exit → AS → Prop} {ops : Array Oper} {l : List Oper} {enc : Int → List Value}
theorem LKPR (hT : TTok P tt) (id : Nat) (L : List DRow) (a b : Int) (g : Nat) (kt et e : TypeId) (d : Option Tmp) (h : lkoA tt s l = some (.s (.v (.map (some g))), kt, et, .g [.int .i64 a, .int .i64 b], d))
  (hf : fnd s.hp id = some (.pf (DeepAt enc g L) (ftR g L))) (hkt : pair2 P kt = true) (hz : (tyL tt et).map (fun i => i.zero) = some (.slice none 0 0)) (henc : ∀ y, (enc y).length = 1) (S : List Int) (hS : S = dkRow (L.map dkStrip) a b)
  (hp : ((s.add (.sl .ro e 1 S enc 0)).put d [] (.s (.ref s.nx))).isSome = true) (hK : WPO P cx ops l.tail (((s.add (.sl .ro e 1 S enc 0)).put d [] (.s (.ref s.nx))).getD s) Q) : WPO P cx ops l s Q := fun n act w hs => by
 cases l with
 | nil => cases h
 | cons o rest =>
  obtain ⟨s', hs'⟩ := Option.isSome_iff_exists.1 hp
  rw [hs'] at hK
  simp only [lkoA] at h
  split at h <;> try (cases h; done)
  rename_i t m k ho hg
  split at h <;> try (cases h; done)
  rename_i z1 b1 zv kt2 e2 mv2 kv2 ht hm hk
  simp only [Option.some.injEq, Prod.mk.injEq] at h
  obtain ⟨rfl, rfl, rfl, rfl, hdst⟩ := h
  obtain ⟨F⟩ := hT.get ht
  have hd : F.desc = .map kt2 e2 := by
   have := F.td
   cases hd : F.desc <;> rw [hd] at this <;> simp only [tdOf] at this <;> first
    | (cases this; done)
    | (injection this with h1 h2; rw [h1, h2])
  have hH : Holds act [] := fun x hx => by cases hx
  obtain ⟨e1, _⟩ := ev_sound hs.env hH hm
  obtain ⟨e2', _⟩ := ev_sound hs.env hH hk
  simp only [AV.c, AC.c] at e1
  have hm := fnd_mem hf
  have he := hs.heap.ents _ hm
  have hD := he.1
  have hfind := find_pair hkt a b (fun x : DRow => x.k) dkKey dkVal (fun _ => rfl) w L
  have hzf := zip_find (dkIs a b) L 0
  have hV : (execOp act.eval o).run P w = .ok (.value (.slice (dkHd L a b).1 S.length (dkHd L a b).2)) w := by
   have hrun : ∀ V, (∃ z, (Instr.findKey kt2 (pairV a b) (ents L dkKey dkVal).toList).run P w = .ok z w ∧ ((∃ i, z = some (i, V)) ∨ (z = none ∧ (tyL tt e2).map (fun i => i.zero) = some V))) → (execOp act.eval o).run P w = .ok (.value V) w := by
    rintro V ⟨z, hz', hz2⟩
    unfold execOp
    rw [ho]
    simp only [e1, e2', Sem.run_bind, Instr.lookup, run_underlying F.hdesc, hd, Result.andThen_ok, run_getObj' hD.map, Sem.run_pure]
    rw [show AV.c n (.g [.int .i64 a, .int .i64 b]) = pairV a b from rfl, check_pairB hkt a b w]
    simp only [Result.andThen_ok, Sem.run_bind, hz']
    rcases hz2 with ⟨i, rfl⟩ | ⟨rfl, hzero⟩
    ·simp only [Sem.run_bind, Sem.run_pure, Result.andThen_ok]; rfl
    obtain ⟨i, hi, hi2⟩ := Option.map_eq_some_iff.1 hzero
    obtain ⟨E⟩ := hT.get hi
    simp only [Sem.run_bind, run_zero' E, Sem.run_pure, Result.andThen_ok, hi2]; rfl
   refine hrun _ ⟨_, hfind, ?_⟩
   rw [hS, dk_find]
   unfold dkHd
   rw [← hzf]
   cases hq : L.zipIdx.find? fun z => dkIs a b z.1 with
   | none =>
    refine .inr ⟨?_, hz⟩
    show ((L.zipIdx.find? fun z => dkIs a b z.1).map fun z => (z.2, dkVal z.1)) = none
    rw [hq]; rfl
   | some z =>
    refine .inl ⟨z.2, ?_⟩
    show ((L.zipIdx.find? fun z => dkIs a b z.1).map fun z => (z.2, dkVal z.1)) = _
    rw [hq]; rfl
  have hsym : ∀ (x y : Nat × HE), ((x.2.mut = true ∨ y.2.mut = true) → ∀ g, x.2.foot (n x.1) g → ¬ y.2.foot (n y.1) g) → ((y.2.mut = true ∨ x.2.mut = true) → ∀ g, y.2.foot (n y.1) g → ¬ x.2.foot (n x.1) g) :=
   fun x y h hm g h1 h2 => h hm.symm g h2 h1
  have hrd : Reads w (.slice (dkHd L a b).1 S.length (dkHd L a b).2) 1 S enc 0 := by rw [hS]; exact dk_reads hD
  have hft : ∀ q, vblk (.slice (dkHd L a b).1 S.length (dkHd L a b).2) = some q ∧ 0 < S.length → ftR g L q := fun q hq => dk_foot (a := a) (b := b) q (by rw [hS] at hq; exact hq)
  have h2 := hs.heap.add (e := .sl .ro e 1 S enc 0) (v := .slice (dkHd L a b).1 S.length (dkHd L a b).2) (Below.refl _ w) rfl ⟨henc, hrd⟩ trivial (fun q hq => hs.heap.lt _ hm q (hft q hq)) (fun q hq => .inr fun x hx hmu hxq => by
   have hxm : x.2.mut = true := hmu.resolve_left (by simp [HE.mut, SK.isOwn])
   have hne : x ≠ (id, .pf (DeepAt enc g L) (ftR g L)) := fun e => by rw [e] at hxm; simp [HE.mut] at hxm
   exact pw_mem hsym hs.heap.sep hx hm hne (.inl hxm) q hxq (hft q hq))
  refine wp_value (wanted_none (ops := ops) hg) hV ?_
  rw [hdst]
  exact hK _ _ _ (put_sat (env_add hs (upd_lt n s.nx _) h2) hs' (fun _ => ⟨by simp only [AV.c, AC.c]; exact (upd_same _ _ _).symm, Nat.lt_succ_self _⟩) (fun hn => absurd hH hn))
end
end Go.Proofs.YtpfglknbkpcfnaaDoor.Eng
namespace Go.Proofs.YtpfglknbkpcfnaaDoor.X
open Go Go.RowKit Go.Proofs.YtpfglknbkpcfnaaDoor.Eng Go.Proofs.YtpfglknbkpcfnaaDoor.Fw
def deepP (l : List LSound) : List ((Int × Int) × List Int) := l.foldl (fun A y => dkPut A y.hr y.sh (dkRow A y.hr y.sh ++ [y.dp])) []
abbrev deepS (b : LBook) : List ((Int × Int) × List Int) := deepP b.sounds
def rightD_c2 (b : LOpen) (hour : Int) (height : Int) (f : Int × Int) (k1 : Nat) (k2 : Nat) : Unit → Bool := fun _ => decide ((k2 : Int) < ((dkRow (deepS b.b) hour (k1 : Int)).length : Int))
def rightD_b2 (b : LOpen) (hour : Int) (height : Int) (f : Int × Int) (k1 : Nat) (k2 : Nat) : Unit → Bd Unit Bool := fun _ => (bif (IntKind.i64.wrap (height - (pix f (k1 : Int)))) != ((dkRow (deepS b.b) hour (k1 : Int)).getD k2 0) then .ret false else .go ())
def rightD_c1 (b : LOpen) (hour : Int) (height : Int) (f : Int × Int) (k1 : Nat) : Unit → Bool := fun _ => decide ((k1 : Int) < 2)
def rightD_b1 (b : LOpen) (hour : Int) (height : Int) (f : Int × Int) (k1 : Nat) : Unit → Bd Unit Bool := fun _ => (match loopR (rightD_c2 b hour height f k1) (rightD_b2 b hour height f k1) (dkRow (deepS b.b) hour (k1 : Int)).length 0 () with | .brk () => .go () | .ret r => .ret r)
def rightD (b : LOpen) (hour : Int) (height : Int) (f : Int × Int) : Bool :=
 (match loopR (rightD_c1 b hour height f) (rightD_b1 b hour height f) 2 0 () with | .brk () => true | .ret r => r)
theorem rightD_calls (g0 g1 g2 : Value) (gm : Nat) (DL : List DRow) (b : LOpen) (hour : Int) (height : Int) (f : Int × Int) (w : World) (r0 : Reads w g0 2 b.b.tides encSpan zSpan) (r1 : Reads w g1 3 b.b.sounds encSound zSound) (r2 : Reads w g2 2 b.can encPr zPr) (hD : DeepAt encI gm DL w) (hS : DL.map dkStrip = deepS b.b) : Calls Tryd.prog 116 #[.agg ((lanV g0 b.b [g1, .map (some gm), g2]).toArray), iv hour, iv height, .agg #[iv f.1, iv f.2]] w fun e w' => e = .returned (.bool (rightD b hour height f)) ∧ Below w.heap.size w w' := by
 refine CW tt_ok [g0, g1, g2] 3 [.g (lanC (.ref 0) b.b [.ref 1, .v (.map (some gm)), .ref 2]), .s (.int .i64 hour), .s (.int .i64 height), .g [.int .i64 f.1, .int .i64 f.2]] (roL b.b [(2, .sl .ro 148 2 b.can encPr zPr), (3, .pf (DeepAt encI gm DL) (ftR gm DL))]) 4 Tryd.func116 rfl rfl rfl (by simp [r0.one, r1.one, r2.one]) ⟨ro_in r0, ro_in r1, ro_in r2, ⟨⟨hD, fun w1 w2 h1 hw => DeepAt.stab w1 w2 h1 hw, fun g hg => hD.lt g hg⟩, (Nat.le_of_ble_eq_true rfl)⟩, trivial⟩ ?_
 have hl0 := Reads.len r0
 have hl1 := Reads.len r1
 have hl2 := Reads.len r2
 refine WSA tt_ok ?_
 refine WP_seq (WSA tt_ok ?_)
 refine WP_loopA (ρ := Bool) (rightD_c1 b hour height f) (rightD_b1 b hour height f) 2 () (fun k : Nat => (k : Int)) (fun (ci : Int) (zz : Unit) => ⟨36, [(14, [], .s (.int .i64 ci)), (13, [], .g [.int .i64 f.1, .int .i64 f.2]), (4, [], .s (.p 4 0)), (1, [], .s (.int .i64 hour)), (2, [], .s (.int .i64 height))], ((5, .box 148 [.int .i64 f.1, .int .i64 f.2]) :: (4, .box 128 (lanC (.ref 0) b.b [.ref 1, .v (.map (some gm)), .ref 2])) :: (roL b.b [(2, .sl .ro 148 2 b.can encPr zPr), (3, .pf (DeepAt encI gm DL) (ftR gm DL))])), 6, []⟩) (fun zz : Unit => ⟨36, [], ((5, .box 148 [.int .i64 f.1, .int .i64 f.2]) :: (4, .box 128 (lanC (.ref 0) b.b [.ref 1, .v (.map (some gm)), .ref 2])) :: (roL b.b [(2, .sl .ro 148 2 b.can encPr zPr), (3, .pf (DeepAt encI gm DL) (ftR gm DL))])), 6, []⟩) (fun k zz => True) trivial ⟨0, rfl, Le_sel (ts := [14, 13, 4, 1, 2]) (ids := [5, 4, 0, 1, 2, 3]) (nx := 6) (by kernel_rfl)⟩ ?_ ?_
 ·intro k1 zz hn1 hp1 hi1 Q1 hq1 ho1
  refine WSA tt_ok ?_
  refine WP_seq (WP_cond (decide ((k1 : Int) < 2)) (by kernel_rfl) (fun hc1 => ?_) (fun hc1 => ?_))
  rotate_left
  ·refine WP_exit ?_
   show Q1 (.exit 0) _
   exact LA_exit hq1 () (loopR_end hi1 hc1) ⟨k1, hn1, hp1⟩ (Le_sel (ts := []) (ids := [5, 4, 0, 1, 2, 3]) (nx := 6) (by kernel_rfl))
  have hc1' := of_decide_eq_true hc1
  have hk1 : k1 < 2 := by omega
  refine WP_skip ?_
  refine WP_seq (WP_block ?_)
  refine WSR tt_ok 1 ?_
  refine IXV tt_ok [.int .i64 f.1, .int .i64 f.2] (k1 : Int) 2 1 false [] (.s (.int .i64 (pix f (k1 : Int)))) (by kernel_rfl) (by kernel_rfl) (fun hG => ⟨by omega, by omega⟩) (fun hG => (by rcases (show (k1 : Int) = 0 ∨ (k1 : Int) = 1 by omega) with h | h <;> rw [h] <;> kernel_rfl)) ?_
  refine WPA tt_ok ?_
  refine WSR tt_ok 5 ?_
  refine LKPR (enc := encI) tt_ok 3 DL hour (k1 : Int) gm 136 51 3 (some 23) (by kernel_rfl) (by kernel_rfl) (by kernel_rfl) (by kernel_rfl) (fun _ => rfl) (dkRow (deepS b.b) hour (k1 : Int)) (by rw [hS]) (by kernel_rfl) ?_
  refine WPA tt_ok ?_
  refine WP_fact (p := ((dkRow (deepS b.b) hour (k1 : Int)).length : Int) ≤ 9223372036854775807) (fun nV aV wV hs => Reads.len (sz := 1) (enc := encI) (z := 0) (hs.heap.reads (id := 6) (kd := .ro) (e := 3) (by kernel_rfl))) (fun hN2 => ?_)
  refine WP_loopA (ρ := Bool) (rightD_c2 b hour height f k1) (rightD_b2 b hour height f k1) (dkRow (deepS b.b) hour (k1 : Int)).length () (fun k : Nat => (k : Int)) (fun (ci : Int) (zz : Unit) => ⟨36, [(25, [], .s (.int .i64 ci)), (24, [], .s (.int .i64 ((dkRow (deepS b.b) hour (k1 : Int)).length : Int))), (23, [], .s (.ref 6)), (10, [], .s (.int .i64 (pix f (k1 : Int)))), (14, [], .s (.int .i64 (k1 : Int))), (13, [], .g [.int .i64 f.1, .int .i64 f.2]), (4, [], .s (.p 4 0)), (1, [], .s (.int .i64 hour)), (2, [], .s (.int .i64 height))], ((6, .sl .ro 3 1 (dkRow (deepS b.b) hour (k1 : Int)) encI 0) :: (5, .box 148 [.int .i64 f.1, .int .i64 f.2]) :: (4, .box 128 (lanC (.ref 0) b.b [.ref 1, .v (.map (some gm)), .ref 2])) :: (roL b.b [(2, .sl .ro 148 2 b.can encPr zPr), (3, .pf (DeepAt encI gm DL) (ftR gm DL))])), 7, []⟩) (fun zz : Unit => ⟨36, [(14, [], .s (.int .i64 (k1 : Int))), (13, [], .g [.int .i64 f.1, .int .i64 f.2]), (4, [], .s (.p 4 0)), (1, [], .s (.int .i64 hour)), (2, [], .s (.int .i64 height))], ((6, .sl .ro 3 1 (dkRow (deepS b.b) hour (k1 : Int)) encI 0) :: (5, .box 148 [.int .i64 f.1, .int .i64 f.2]) :: (4, .box 128 (lanC (.ref 0) b.b [.ref 1, .v (.map (some gm)), .ref 2])) :: (roL b.b [(2, .sl .ro 148 2 b.can encPr zPr), (3, .pf (DeepAt encI gm DL) (ftR gm DL))])), 7, []⟩) (fun k zz => True) trivial ⟨0, rfl, Le_sel (ts := [25, 24, 23, 10, 14, 13, 4, 1, 2]) (ids := [6, 5, 4, 0, 1, 2, 3]) (nx := 7) (by kernel_rfl)⟩ ?_ ?_
  ·intro k2 zz hn2 hp2 hi2 Q2 hq2 ho2
   refine WSA tt_ok ?_
   refine WP_seq (WP_cond (decide ((k2 : Int) < ((dkRow (deepS b.b) hour (k1 : Int)).length : Int))) (by kernel_rfl) (fun hc2 => ?_) (fun hc2 => ?_))
   rotate_left
   ·refine WP_exit ?_
    show Q2 (.exit 2) _
    exact LA_exit hq2 () (loopR_end hi2 hc2) ⟨k2, hn2, hp2⟩ (Le_sel (ts := [14, 13, 4, 1, 2]) (ids := [6, 5, 4, 0, 1, 2, 3]) (nx := 7) (by kernel_rfl))
   have hc2' := of_decide_eq_true hc2
   have hk2 : k2 < (dkRow (deepS b.b) hour (k1 : Int)).length := by omega
   refine WP_skip ?_
   refine WP_seq (WP_block ?_)
   refine WP_seq (WP_region (IX tt_ok (k2 : Int) (dkRow (deepS b.b) hour (k1 : Int)).length [] (by kernel_rfl) (fun hG => ⟨by omega, by omega⟩) ?_))
   refine WPA tt_ok ?_
   refine WSA tt_ok ?_
   refine WP_cond ((IntKind.i64.wrap (height - (pix f (k1 : Int)))) != ((dkRow (deepS b.b) hour (k1 : Int)).getD k2 0)) (by kernel_rfl) (fun hc4 => ?_) (fun hc4 => ?_)
   ·have hc4' := hc4; try simp only [bfs, ne_eq] at hc4'
    refine WSA tt_ok ?_
    refine WP_ret ?_
    show Q2 .ret _
    refine LA_ret hq2 ?_
    show Q1 .ret _
    refine LA_ret hq1 ?_
    have he5 := loopR_ret (r := false) hi2 hk2 hc2 (by unfold rightD_b2; simp only [hc4, cond_true, cond_false])
    have he6 := loopR_ret (r := false) hi1 hk1 hc1 (by unfold rightD_b1; simp only [he5, cond_true, cond_false])
    exact ⟨.s (.bool false), by kernel_rfl, fun nV w' h => ⟨by rw [show rightD b hour height f = false from by unfold rightD; simp only [he6, cond_true, cond_false]]; rfl, h.bel⟩⟩
   have hc4' := hc4; try simp only [bfs, ne_eq] at hc4'
   refine WP_skip ?_
   refine WRA tt_ok ?_
   show Q2 .normal _
   exact LA_go hq2 (ci := IntKind.i64.wrap ((k2 : Int) + 1)) () hk2 (by show _ = ((k2 + 1 : Nat) : Int); rw [wrapI (by omega) (by omega)]; omega) (loopR_go hi2 hk2 hc2 (by unfold rightD_b2; simp only [hc4, cond_true, cond_false])) trivial (Le_sel (ts := [25, 24, 23, 10, 14, 13, 4, 1, 2]) (ids := [6, 5, 4, 0, 1, 2, 3]) (nx := 7) (by kernel_rfl))
  intro zz hR2 hP2 s' hl
  refine WP_le hl ?_
  clear hl s'
  refine WRA tt_ok ?_
  show Q1 .normal _
  exact LA_go hq1 (ci := IntKind.i64.wrap ((k1 : Int) + 1)) () hk1 (by show _ = ((k1 + 1 : Nat) : Int); rw [wrapI (by omega) (by omega)]; omega) (loopR_go hi1 hk1 hc1 (by unfold rightD_b1; simp only [hR2, cond_true, cond_false])) trivial (Le_sel (ts := [14, 13, 4, 1, 2]) (ids := [5, 4, 0, 1, 2, 3]) (nx := 6) (by kernel_rfl))
 intro zz hR1 hP1 s' hl
 refine WP_le hl ?_
 clear hl s'
 refine WSA tt_ok ?_
 refine WP_ret ?_
 exact ⟨.s (.bool true), by kernel_rfl, fun nV w' h => ⟨by rw [show rightD b hour height f = true from by unfold rightD; simp only [hR1, cond_true, cond_false]]; rfl, h.bel⟩⟩
structure ValidL (b : LBook) : Prop where
 nt : 1 ≤ b.tides.length ∧ b.tides.length ≤ 24
 tides : ∀ x ∈ b.tides, -40 ≤ x.lo ∧ x.lo ≤ x.hi ∧ x.hi ≤ 80 ∧ x.hi - x.lo ≤ 4
 fl1 : -40 ≤ b.shores.1.fl.lo ∧ b.shores.1.fl.lo ≤ b.shores.1.fl.hi ∧ b.shores.1.fl.hi ≤ 80 ∧ b.shores.1.fl.hi - b.shores.1.fl.lo ≤ 4
 fl2 : -40 ≤ b.shores.2.fl.lo ∧ b.shores.2.fl.lo ≤ b.shores.2.fl.hi ∧ b.shores.2.fl.hi ≤ 80 ∧ b.shores.2.fl.hi - b.shores.2.fl.lo ≤ 4
 sh1 : -40 ≤ b.shores.1.lo ∧ b.shores.1.lo ≤ b.shores.1.hi ∧ b.shores.1.hi ≤ 80
 sh2 : -40 ≤ b.shores.2.lo ∧ b.shores.2.lo ≤ b.shores.2.hi ∧ b.shores.2.hi ≤ 80
 empty : 0 ≤ b.empty.lo ∧ b.empty.lo ≤ b.empty.hi ∧ b.empty.hi ≤ 40 ∧ b.empty.hi - b.empty.lo ≤ 4
 sink : 1 ≤ b.sink ∧ b.sink ≤ 20
 under : 0 ≤ b.under ∧ b.under ≤ 10
 ns : b.sounds.length ≤ 6
 sounds : ∀ x ∈ b.sounds, (0 ≤ x.hr ∧ x.hr < b.tides.length) ∧ (0 ≤ x.sh ∧ x.sh ≤ 1) ∧ (0 ≤ x.dp ∧ x.dp ≤ 120)
theorem ValidL.tide {b : LBook} (h : ValidL b) {hour : Int} (hh : 0 ≤ hour ∧ hour < b.tides.length) : -40 ≤ (b.tides.getD hour.toNat zSpan).lo ∧ (b.tides.getD hour.toNat zSpan).lo ≤ (b.tides.getD hour.toNat zSpan).hi ∧ (b.tides.getD hour.toNat zSpan).hi ≤ 80 ∧ (b.tides.getD hour.toNat zSpan).hi - (b.tides.getD hour.toNat zSpan).lo ≤ 4 :=
 h.tides _ (getD_mem (by omega))
def nH (b : LBook) (hour : Int) : Nat := ((b.tides.getD hour.toNat zSpan).hi - (b.tides.getD hour.toNat zSpan).lo + 1).toNat
def preH (b : LOpen) (hour : Int) (f : Int × Int) (k : Nat) : List Int := ((List.range k).map fun q : Nat => (b.b.tides.getD hour.toNat zSpan).lo + q).filter fun h => rightD b hour h f
def heightsD (b : LOpen) (hour : Int) (f : Int × Int) : List Int := preH b hour f (nH b.b hour)
theorem preH_succ (b : LOpen) (hour : Int) (f : Int × Int) (k : Nat) : preH b hour f (k + 1) = preH b hour f k ++ (if rightD b hour ((b.b.tides.getD hour.toNat zSpan).lo + k) f then [(b.b.tides.getD hour.toNat zSpan).lo + (k : Int)] else []) := by
 unfold preH
 rw [List.range_succ, List.map_append, List.filter_append]
 congr 1
 simp only [List.map_cons, List.map_nil, List.filter_cons, List.filter_nil]
theorem preH_prefix {b : LOpen} {hour : Int} {f : Int × Int} {k : Nat} (h : k ≤ nH b.b hour) : preH b hour f k <+: heightsD b hour f := by
 unfold heightsD preH
 refine List.IsPrefix.filter _ (List.IsPrefix.map _ ?_)
 exact List.prefix_iff_eq_take.2 (by rw [List.length_range, List.take_range]; congr 1; omega)
def encH (x : Int) : Array Value := #[iv x]
theorem heights_ok7 {cx : Cx} {s s1 : AS} {H : List (Nat × HE)} {b : LOpen} {hour : Int} {f : Int × Int} {gm : Nat} (h1 : s.hp = H) (h2 : s.nx = 7)
  (h3 : s1.hp = (10, .clo 115 [] [.s (.p 7 0), .s (.p 8 0), .s (.p 9 0)]) :: (9, .box 148 [ai f.1, ai f.2]) :: (8, .box 3 [ai hour]) :: (7, .box 128 (lanC (.ref 0) b.b [.ref 1, .v (.map (some gm)), .ref 2])) :: H) (h4 : s1.nx = 11) :
  CallOk Tryd.prog cx s 105 [.g (lanC (.ref 0) b.b [.ref 1, .v (.map (some gm)), .ref 2]), .s (ai hour), .g [ai f.1, ai f.2]] (.s (.ref 10)) s1 := by
 intro n w hh
 have hh2 : HSat ⟨cx.w0, cx.ok, n, 7, true⟩ n ⟨8, env0 0 [.g (lanC (.ref 0) b.b [.ref 1, .v (.map (some gm)), .ref 2]), .s (ai hour), .g [ai f.1, ai f.2]], H, 7, []⟩ w :=
  (HSat.top (b := true) hh).of_same (s2 := ⟨8, env0 0 [.g (lanC (.ref 0) b.b [.ref 1, .v (.map (some gm)), .ref 2]), .s (ai hour), .g [ai f.1, ai f.2]], H, 7, []⟩) h1.symm h2.symm |> fun h => by rw [h2] at h; exact h
 refine calls_of_WP (cx := ⟨cx.w0, cx.ok, n, 7, true⟩) (n := n) (vs := [.g (lanC (.ref 0) b.b [.ref 1, .v (.map (some gm)), .ref 2]), .s (ai hour), .g [ai f.1, ai f.2]]) (hp := H) (nx := 7) tt_ok Tryd.func105 rfl rfl rfl (by kernel_rfl) hh2 (vsOk (by kernel_rfl)) ?_
 refine WSA tt_ok ?_
 refine WSA tt_ok ?_
 refine WP_ret ?_
 exact ⟨.s (.ref 10), by kernel_rfl, fun n1 w' h => ⟨n1, fun id hid => h.ini id (by rw [← h2]; exact hid), rfl, ((h.of_same (s2 := s1) (by rw [h3]; kernel_rfl) (by rw [h4]; kernel_rfl)).back (fun id hid => hh.ini id hid) (by have := hh.inx; rw [h2] at this; exact this))⟩⟩
theorem heightsS_iter (b : LOpen) (hour : Int) (f : Int × Int) (gm : Nat) (DL : List DRow) (hv : ValidL b.b) (hh0 : 0 ≤ hour ∧ hour < b.b.tides.length) (hS : DL.map dkStrip = deepS b.b) : IterOk Tryd.prog 115 [.s (.p 7 0), .s (.p 8 0), .s (.p 9 0)] [(7, .box 128 (lanC (.ref 0) b.b [.ref 1, .v (.map (some gm)), .ref 2])), (8, .box 3 [.int .i64 hour]), (9, .box 148 [.int .i64 f.1, .int .i64 f.2])] (roL b.b [(2, .sl .ro 148 2 b.can encPr zPr), (3, .pf (DeepAt encI gm DL) (ftR gm DL))]) 12 encH (heightsD b hour f) := by
 intro cx n w LL RF GR J Jx G0 hJ hJx hY hh
 have e : (#[.func (.yield LL) #[] #[]] ++ (([.s (.p 7 0), .s (.p 8 0), .s (.p 9 0)] : List AV).map (AV.c n)).toArray : Array Value) = (([.s (.v (.func (.yield LL) #[] #[])), .s (.p 7 0), .s (.p 8 0), .s (.p 9 0)] : List AV).map (AV.c n)).toArray := by simp [AV.c, AC.c]
 rw [e]
 have htd := hv.tide hh0
 have hnH : IntKind.i64.wrap (IntKind.i64.wrap ((b.b.tides.getD hour.toNat zSpan).hi - (b.b.tides.getD hour.toNat zSpan).lo) + 1) = (nH b.b hour : Int) := by rw [wrapI (x := (b.b.tides.getD hour.toNat zSpan).hi - (b.b.tides.getD hour.toNat zSpan).lo) (by omega) (by omega), wrapI (by omega) (by omega)]; unfold nH; omega
 have hn24 := hv.nt.2
 refine calls_of_WP (cx := ⟨cx.w0, cx.ok, n, 14, true⟩) (n := n) (vs := [.s (.v (.func (.yield LL) #[] #[])), .s (.p 7 0), .s (.p 8 0), .s (.p 9 0)]) (hp := ((12, .jf (J ([]) G0) G0) :: (13, .pf RF GR) :: (7, .box 128 (lanC (.ref 0) b.b [.ref 1, .v (.map (some gm)), .ref 2])) :: (8, .box 3 [.int .i64 hour]) :: (9, .box 148 [.int .i64 f.1, .int .i64 f.2]) :: (roL b.b [(2, .sl .ro 148 2 b.can encPr zPr), (3, .pf (DeepAt encI gm DL) (ftR gm DL))]))) (nx := 14) tt_ok Tryd.func115 rfl rfl rfl (by kernel_rfl) (hh.top.slots) (vsOk (by kernel_rfl)) ?_
 refine WP_scope ?_
 refine WSR tt_ok 4 ?_
 refine IX tt_ok hour b.b.tides.length [] (by kernel_rfl) (fun hG => ⟨by omega, by omega⟩) ?_
 refine WPA tt_ok ?_
 refine WSA tt_ok ?_
 refine WP_seq (WP_label ?_)
 refine WSA tt_ok ?_
 refine WP_block (WP_loop (σ := Int × List Int × (Nat → Prop)) (fun zz => ⟨42, [(22, [], .s (.int .i64 zz.1)), (21, [], .s (.int .i64 (IntKind.i64.wrap ((IntKind.i64.wrap ((b.b.tides.getD hour.toNat zSpan).hi - (b.b.tides.getD hour.toNat zSpan).lo)) + 1)))), (6, [], .s (.ref 15)), (5, [], .s (.p 14 0)), (0, [], .s (.v (.func (.yield LL) #[] #[]))), (2, [], .s (.p 8 0)), (3, [], .s (.p 9 0))], ((15, .clo 116 [.g (lanC (.ref 0) b.b [.ref 1, .v (.map (some gm)), .ref 2])] []) :: (14, .box 24 [.int .i64 (b.b.tides.getD hour.toNat zSpan).lo, .int .i64 (b.b.tides.getD hour.toNat zSpan).hi]) :: (12, .jf (J zz.2.1 zz.2.2) zz.2.2) :: (13, .pf RF GR) :: (7, .box 128 (lanC (.ref 0) b.b [.ref 1, .v (.map (some gm)), .ref 2])) :: (8, .box 3 [.int .i64 hour]) :: (9, .box 148 [.int .i64 f.1, .int .i64 f.2]) :: (roL b.b [(2, .sl .ro 148 2 b.can encPr zPr), (3, .pf (DeepAt encI gm DL) (ftR gm DL))])), 16, []⟩) (fun zz => ∃ k : Nat, k ≤ nH b.b hour ∧ zz.1 = k ∧ zz.2.1 = preH b hour f k) (fun zz => nH b.b hour - zz.1.toNat) (0, [], G0) (⟨0, by omega, rfl, rfl⟩) (Le_sel (ts := [22, 21, 6, 5, 0, 2, 3]) (ids := [15, 14, 12, 13, 7, 8, 9, 0, 1, 2, 3]) (nx := 16) (by kernel_rfl)) ?_)
 rintro ⟨ii, pre, G⟩ hinv
 obtain ⟨k, hk0, hii, hpre⟩ := hinv
 simp only at hii hpre
 subst hii
 subst hpre
 refine WSA tt_ok ?_
 refine WP_seq (WP_cond (decide ((k : Int) < (IntKind.i64.wrap ((IntKind.i64.wrap ((b.b.tides.getD hour.toNat zSpan).hi - (b.b.tides.getD hour.toNat zSpan).lo)) + 1)))) (by kernel_rfl) (fun hc2 => ?_) (fun hc2 => ?_))
 ·have hc2' := of_decide_eq_true hc2
  rw [hnH] at hc2'
  have hk : k < nH b.b hour := by omega
  have hk4 : (k : Int) ≤ 4 := by unfold nH at hk; omega
  have hwr : IntKind.i64.wrap ((b.b.tides.getD hour.toNat zSpan).lo + (k : Int)) = ((b.b.tides.getD hour.toNat zSpan).lo + (k : Int)) := wrapI (by omega) (by omega)
  refine WP_skip ?_
  refine WP_seq (WP_block ?_)
  refine WSA tt_ok ?_
  refine WP_seq (WP_seq (WP_region (WPO_run tt_ok 7 (by kernel_rfl) ?_)))
  refine CAL 116 [.g (lanC (.ref 0) b.b [.ref 1, .v (.map (some gm)), .ref 2]), .s (.int .i64 hour), .s (.int .i64 (IntKind.i64.wrap ((b.b.tides.getD hour.toNat zSpan).lo + (k : Int)))), .g [.int .i64 f.1, .int .i64 f.2]] (.s (.bool (rightD b hour (IntKind.i64.wrap ((b.b.tides.getD hour.toNat zSpan).lo + (k : Int))) f))) [] (fun hG nV w h => rightD_calls (nV 0) (nV 1) (nV 2) gm DL b hour (IntKind.i64.wrap ((b.b.tides.getD hour.toNat zSpan).lo + (k : Int))) f w (h.rd 0 24) (h.rd 1 112) (h.rd 2 148) (h.ents (3, .pf (DeepAt encI gm DL) (ftR gm DL)) (fnd_mem (by kernel_rfl))).1 (by first | assumption | omega)) ?_
  refine WPA tt_ok ?_
  refine WP_cond (!(rightD b hour (IntKind.i64.wrap ((b.b.tides.getD hour.toNat zSpan).lo + (k : Int))) f)) (by kernel_rfl) (fun hc4 => ?_) (fun hc4 => ?_)
  ·have hc4' := hc4; try simp only [bfs, ne_eq] at hc4'
   refine WP_exit ?_
   refine WRA tt_ok ?_
   refine ⟨(IntKind.i64.wrap ((k : Int) + 1), preH b hour f k, G), ?_, ?_, Le_sel (ts := [22, 21, 6, 5, 0, 2, 3]) (ids := [15, 14, 12, 13, 7, 8, 9, 0, 1, 2, 3]) (nx := 16) (by kernel_rfl)⟩
   ·refine ⟨k + 1, by omega, by simp only; rw [wrapI (by omega) (by omega)]; rfl, ?_⟩
    simp only
    rw [preH_succ]
    first
    | rw [if_neg (by rw [← hwr, hc4']; decide), List.append_nil]
    | rw [if_pos (by rw [← hwr]; exact hc4')]
   simp only
   rw [wrapI (by omega) (by omega)]
   omega
  have hc4' := hc4; try simp only [bfs, ne_eq] at hc4'
  refine WP_skip ?_
  have hgo : preH b hour f (k + 1) = preH b hour f k ++ [((b.b.tides.getD hour.toNat zSpan).lo + (k : Int))] := by rw [preH_succ, if_pos (by rw [← hwr]; exact hc4')]
  refine WP_seq (WP_yield tt_ok 5 (preH b hour f k) ((b.b.tides.getD hour.toNat zSpan).lo + (k : Int)) LL 12 13 [.s (.int .i64 (IntKind.i64.wrap ((b.b.tides.getD hour.toNat zSpan).lo + (k : Int))))] (some 39) G GR encH (heightsD b hour f) RF J Jx (by kernel_rfl) (by kernel_rfl) (by kernel_rfl) (by kernel_rfl) hJ hJx hY (by (rw [← hgo]; exact preH_prefix (by omega))) (fun n => by (rw [hwr]; rfl)) (fun F' G' b => by kernel_rfl) (fun G' => ?_) (fun G' => ?_))
  ·refine WP_cond (!true) (by kernel_rfl) (fun h => by cases h) (fun hc5 => ?_)
   refine WP_skip ?_
   refine WRA tt_ok ?_
   refine ⟨(IntKind.i64.wrap ((k : Int) + 1), preH b hour f k ++ [((b.b.tides.getD hour.toNat zSpan).lo + (k : Int))], G'), ?_, ?_, Le_sel (ts := [22, 21, 6, 5, 0, 2, 3]) (ids := [15, 14, 12, 13, 7, 8, 9, 0, 1, 2, 3]) (nx := 16) (by kernel_rfl)⟩
   ·refine ⟨k + 1, by omega, by simp only; rw [wrapI (by omega) (by omega)]; rfl, ?_⟩
    simp only
    rw [preH_succ]
    first
    | rw [if_neg (by rw [← hwr, hc4']; decide), List.append_nil]
    | rw [if_pos (by rw [← hwr]; exact hc4')]
   simp only
   rw [wrapI (by omega) (by omega)]
   omega
  refine WP_cond (!false) (by kernel_rfl) (fun hc6 => ?_) (fun h => by cases h)
  refine WP_ret ?_
  exact ⟨.t [], by kernel_rfl, fun n1 w' h => ⟨⟨_, rfl⟩, n1, G', preH b hour f k ++ [((b.b.tides.getD hour.toNat zSpan).lo + (k : Int))], fun id hid => h.ini id hid, .inr ⟨(by rw [← hgo]; exact preH_prefix (by omega)), (h.back hh.ini hh.inx).two (by kernel_rfl) (by kernel_rfl) rfl 14 hh.inx (by omega) (by omega)⟩⟩⟩
 have hc2' := of_decide_eq_false hc2
 refine WP_exit ?_
 rw [hnH] at hc2'
 have hkn : k = nH b.b hour := by omega
 exact ⟨.t [], by kernel_rfl, fun n1 w' h => ⟨⟨_, rfl⟩, n1, G, preH b hour f k, fun id hid => h.ini id hid, .inl ⟨by unfold heightsD; rw [hkn], (h.back hh.ini hh.inx).two (by kernel_rfl) (by kernel_rfl) rfl 14 hh.inx (by omega) (by omega)⟩⟩⟩
theorem pre_ne {l q : List Int} (h : q <+: l) (hq : q ≠ []) : l.isEmpty = false := by
 obtain ⟨r, rfl⟩ := h
 cases q with
 | nil => exact absurd rfl hq
 | cons x y => rfl
def someD (b : LOpen) (hour : Int) (f : Int × Int) : Bool := !(heightsD b hour f).isEmpty
theorem someD_calls (g0 g1 g2 : Value) (gm : Nat) (DL : List DRow) (b : LOpen) (hour : Int) (f : Int × Int) (w : World) (r0 : Reads w g0 2 b.b.tides encSpan zSpan) (r1 : Reads w g1 3 b.b.sounds encSound zSound) (r2 : Reads w g2 2 b.can encPr zPr) (hD : DeepAt encI gm DL w) (hS : DL.map dkStrip = deepS b.b) (hv : ValidL b.b) (hh0 : 0 ≤ hour ∧ hour < b.b.tides.length) : Calls Tryd.prog 95 #[.agg ((lanV g0 b.b [g1, .map (some gm), g2]).toArray), iv hour, .agg #[iv f.1, iv f.2]] w fun e w' => e = .returned (.bool (someD b hour f)) ∧ Below w.heap.size w w' := by
 refine calls_of_WPM (cx := cx0 w (vn [g0, g1, g2]) 3) (n := vn [g0, g1, g2]) (vs := [.g (lanC (.ref 0) b.b [.ref 1, .v (.map (some gm)), .ref 2]), .s (.int .i64 hour), .g [.int .i64 f.1, .int .i64 f.2]]) (hp := (roL b.b [(2, .sl .ro 148 2 b.can encPr zPr), (3, .pf (DeepAt encI gm DL) (ftR gm DL))])) (nx := 4) tt_ok Tryd.func95 rfl rfl rfl (by kernel_rfl) (HSat_args (vn_one (by simp [r0.one, r1.one, r2.one])) (by decide) ⟨ro_in r0, ro_in r1, ro_in r2, ⟨⟨hD, fun w1 w2 h1 hw => DeepAt.stab w1 w2 h1 hw, fun g hg => hD.lt g hg⟩, (Nat.le_of_ble_eq_true rfl)⟩, trivial⟩) (vsOk (by kernel_rfl)) ?_
 have hl0 := Reads.len r0
 have hl1 := Reads.len r1
 have hl2 := Reads.len r2
 refine WSA tt_ok ?_
 refine WP_seq (WP_seq (WP_region (WPO_run tt_ok 3 (by kernel_rfl) ?_)))
 refine CALLN 105 [.g (lanC (.ref 0) b.b [.ref 1, .v (.map (some gm)), .ref 2]), .s (.int .i64 hour), .g [.int .i64 f.1, .int .i64 f.2]] ⟨12, [(9, [], .g [.int .i64 f.1, .int .i64 f.2]), (8, [], .s (.int .i64 hour)), (7, [], .g (lanC (.ref 0) b.b [.ref 1, .v (.map (some gm)), .ref 2])), (6, [], .s (.p 6 0)), (5, [], .s (.p 5 0)), (3, [], .s (.p 4 0)), (0, [], .g (lanC (.ref 0) b.b [.ref 1, .v (.map (some gm)), .ref 2])), (1, [], .s (.int .i64 hour)), (2, [], .g [.int .i64 f.1, .int .i64 f.2])], ((10, .clo 115 [] [.s (.p 7 0), .s (.p 8 0), .s (.p 9 0)]) :: (9, .box 148 [.int .i64 f.1, .int .i64 f.2]) :: (8, .box 3 [.int .i64 hour]) :: (7, .box 128 (lanC (.ref 0) b.b [.ref 1, .v (.map (some gm)), .ref 2])) :: (6, .box 4 [.bool false]) :: (5, .box 148 [.int .i64 f.1, .int .i64 f.2]) :: (4, .box 128 (lanC (.ref 0) b.b [.ref 1, .v (.map (some gm)), .ref 2])) :: (roL b.b [(2, .sl .ro 148 2 b.can encPr zPr), (3, .pf (DeepAt encI gm DL) (ftR gm DL))])), 11, []⟩ (.s (.ref 10)) (by kernel_rfl) (goes_of (by kernel_rfl)) (by kernel_rfl) (by kernel_rfl) (more_ext 4 (by kernel_rfl) (by kernel_rfl) (by kernel_rfl)) ⟨(by kernel_rfl), (by kernel_rfl), (by kernel_rfl)⟩ (heights_ok7 (H := ((6, .box 4 [.bool false]) :: (5, .box 148 [.int .i64 f.1, .int .i64 f.2]) :: (4, .box 128 (lanC (.ref 0) b.b [.ref 1, .v (.map (some gm)), .ref 2])) :: (roL b.b [(2, .sl .ro 148 2 b.can encPr zPr), (3, .pf (DeepAt encI gm DL) (ftR gm DL))]))) (by kernel_rfl) (by kernel_rfl) (by kernel_rfl) (by kernel_rfl)) ?_
 refine WPO_nil ?_
 refine WP_block ?_
 refine WP_le (Le_addT (([] : List Int) = []) rfl) ?_
 refine WP_le (s' := ⟨12, [(6, [], .s (.p 6 0)), (10, [], .s (.ref 10))], ((11, jT (([] : List Int) = [])) :: (10, .clo 115 [] [.s (.p 7 0), .s (.p 8 0), .s (.p 9 0)]) :: (9, .box 148 [.int .i64 f.1, .int .i64 f.2]) :: (8, .box 3 [.int .i64 hour]) :: (7, .box 128 (lanC (.ref 0) b.b [.ref 1, .v (.map (some gm)), .ref 2])) :: (6, .box 4 [.bool false]) :: (5, .box 148 [.int .i64 f.1, .int .i64 f.2]) :: (4, .box 128 (lanC (.ref 0) b.b [.ref 1, .v (.map (some gm)), .ref 2])) :: (roL b.b [(2, .sl .ro 148 2 b.can encPr zPr), (3, .pf (DeepAt encI gm DL) (ftR gm DL))])), 12, []⟩) (Le_sel (ts := [6, 10]) (ids := [11, 10, 9, 8, 7, 6, 5, 4, 0, 1, 2, 3]) (nx := 12) (by kernel_rfl)) ?_
 refine WP_range tt_ok rfl (heightsD b hour f) encH (fun x : Int => ([.s (ai x)] : List AV)) [6] [(6, [], .s (.p 6 0))] 10 115 [.s (.p 7 0), .s (.p 8 0), .s (.p 9 0)] (fun pre => [(11, jT ((pre : List Int) = [])), (6, .box 4 [.bool false]), (5, .box 148 [.int .i64 f.1, .int .i64 f.2]), (4, .box 128 (lanC (.ref 0) b.b [.ref 1, .v (.map (some gm)), .ref 2]))]) (fun c pre => match c with | .ret => some [(11, jT ((pre : List Int) ≠ [])), (6, .box 4 [.bool true]), (5, .box 148 [.int .i64 f.1, .int .i64 f.2]), (4, .box 128 (lanC (.ref 0) b.b [.ref 1, .v (.map (some gm)), .ref 2]))] | _ => none) [(7, .box 128 (lanC (.ref 0) b.b [.ref 1, .v (.map (some gm)), .ref 2])), (8, .box 3 [.int .i64 hour]), (9, .box 148 [.int .i64 f.1, .int .i64 f.2])] (roL b.b [(2, .sl .ro 148 2 b.can encPr zPr), (3, .pf (DeepAt encI gm DL) (ftR gm DL))]) (by kernel_rfl) (by kernel_rfl) (goes_of (by kernel_rfl)) (by kernel_rfl) (by repeat (first | exact trivial | refine ⟨by kernel_rfl, ?_⟩)) (by kernel_rfl) (fun pre => (by kernel_rfl)) (fun c pre Mr h => by cases c <;> first | (cases h; kernel_rfl) | (cases h; done)) (by kernel_rfl) (fun x n => rfl) (fun x => rfl) (fun x v hv => by simp only [List.mem_singleton] at hv; rw [hv]; rfl) (fun v hv => by simp at hv; rcases hv with rfl | rfl | rfl <;> kernel_rfl) (heightsS_iter b hour f gm DL hv hh0 hS) ?round ?done ?stop
 case round =>
  intro pre x hpre w0 ok n0 L D FL FB hn0
  refine ⟨⟨12, [(11, [], .s (.int .i64 x)), (6, [], .s (.p 6 0))], ((12, eL L FL) :: (13, eD D) :: (11, jT ((pre : List Int) = [])) :: (6, .box 4 [.bool false]) :: (5, .box 148 [.int .i64 f.1, .int .i64 f.2]) :: (4, .box 128 (lanC (.ref 0) b.b [.ref 1, .v (.map (some gm)), .ref 2])) :: (roL b.b [(2, .sl .ro 148 2 b.can encPr zPr), (3, .pf (DeepAt encI gm DL) (ftR gm DL))])), 14, []⟩, by kernel_rfl, ?_⟩
  refine WP_skip ?_
  refine ⟨by kernel_rfl, ?_⟩
  refine WP_block ?_
  refine WSA tt_ok ?_
  refine WP_ret ?_
  refine ⟨_, rfl, ?_⟩
  refine Le.trans (Le_T (id := 11) ((pre ++ [x] : List Int) ≠ []) (by kernel_rfl) (fun (_ : (pre : List Int) = []) => by simp)) ?_
  exact Le_sel (ts := []) (ids := [12, 13, 11, 6, 5, 4, 0, 1, 2, 3]) (nx := 14) (by kernel_rfl)
 case stop =>
  intro D c pre Mr h hpre
  cases c <;> try (cases h; done)
  cases h
  refine WP_T (id := 11) (p := pre ≠ []) (by kernel_rfl) (fun hst => ?_)
  refine WP_ret ?_
  exact .inr ⟨.s (.bool true), D, 13, by kernel_rfl, by kernel_rfl, by kernel_rfl, fun nV w' h => ⟨by rw [show someD b hour f = true from by unfold someD; rw [pre_ne hpre hst]; rfl]; rfl, h.bel⟩⟩
 case done =>
  intro D
  refine WP_T (id := 11) (p := heightsD b hour f = []) (by kernel_rfl) (fun hok => ?_)
  refine WSA tt_ok ?_
  refine WP_ret ?_
  exact .inr ⟨.s (.bool false), D, 13, by kernel_rfl, by kernel_rfl, by kernel_rfl, fun nV w' h => ⟨by rw [show someD b hour f = false from by unfold someD; rw [hok]; rfl]; rfl, h.bel⟩⟩
def endLo (s : Span) : Int :=
 s.lo
theorem endLo_calls  (s : Span) (w : World)   : Calls Tryd.prog 140 #[.agg #[iv s.lo, iv s.hi]] w fun e w' => e = .returned (iv (endLo s)) ∧ Below w.heap.size w w' := by
 refine C0 tt_ok [.g [.int .i64 s.lo, .int .i64 s.hi]] Tryd.func140 rfl rfl rfl ?_
 refine WSA tt_ok ?_
 refine WSA tt_ok ?_
 refine WP_ret ?_
 exact ⟨.s (.int .i64 s.lo), by kernel_rfl, fun nV w' h => ⟨by rw [show endLo s = s.lo from rfl]; rfl, h.bel⟩⟩
def endHi (s : Span) : Int :=
 s.hi
theorem endHi_calls  (s : Span) (w : World)   : Calls Tryd.prog 141 #[.agg #[iv s.lo, iv s.hi]] w fun e w' => e = .returned (iv (endHi s)) ∧ Below w.heap.size w w' := by
 refine C0 tt_ok [.g [.int .i64 s.lo, .int .i64 s.hi]] Tryd.func141 rfl rfl rfl ?_
 refine WSA tt_ok ?_
 refine WSA tt_ok ?_
 refine WP_ret ?_
 exact ⟨.s (.int .i64 s.hi), by kernel_rfl, fun nV w' h => ⟨by rw [show endHi s = s.hi from rfl]; rfl, h.bel⟩⟩
def landsLo (b : LOpen) (p : Int × Int) (load : Int) (height : Int) (f : Int × Int) : Bool :=
 (decide ((IntKind.i64.wrap (height - (pix f p.2))) ≥ (IntKind.i64.wrap ((IntKind.i64.wrap ((endLo b.b.empty) + (IntKind.i64.wrap (Int.tdiv (IntKind.i64.wrap ((IntKind.i64.wrap (load + b.b.sink)) - 1)) b.b.sink)))) + b.b.under)))) && (withinL height (pix b.b.shores p.2).lo (pix b.b.shores p.2).hi)
theorem landsLo_calls (g0 g1 g2 : Value) (gm : Nat) (DL : List DRow) (b : LOpen) (p : Int × Int) (load : Int) (height : Int) (f : Int × Int) (w : World) (r0 : Reads w g0 2 b.b.tides encSpan zSpan) (r1 : Reads w g1 3 b.b.sounds encSound zSound) (r2 : Reads w g2 2 b.can encPr zPr) (hD : DeepAt encI gm DL w) (hv : ValidL b.b) (hp1 : 0 ≤ p.2 ∧ p.2 ≤ 1) : Calls Tryd.prog 137 #[.agg ((lanV g0 b.b [g1, .map (some gm), g2]).toArray), .agg #[iv p.1, iv p.2], iv load, iv height, .agg #[iv f.1, iv f.2], .agg #[.func (.func 140) #[] #[]]] w fun e w' => e = .returned (.bool (landsLo b p load height f)) ∧ Below w.heap.size w w' := by
 refine CW tt_ok [g0, g1, g2] 3 [.g (lanC (.ref 0) b.b [.ref 1, .v (.map (some gm)), .ref 2]), .g [.int .i64 p.1, .int .i64 p.2], .s (.int .i64 load), .s (.int .i64 height), .g [.int .i64 f.1, .int .i64 f.2], .g [.v (.func (.func 140) #[] #[])]] (roL b.b [(2, .sl .ro 148 2 b.can encPr zPr), (3, .pf (DeepAt encI gm DL) (ftR gm DL))]) 4 Tryd.func137 rfl rfl rfl (by simp [r0.one, r1.one, r2.one]) ⟨ro_in r0, ro_in r1, ro_in r2, ⟨⟨hD, fun w1 w2 h1 hw => DeepAt.stab w1 w2 h1 hw, fun g hg => hD.lt g hg⟩, (Nat.le_of_ble_eq_true rfl)⟩, trivial⟩ ?_
 have hl0 := Reads.len r0
 have hl1 := Reads.len r1
 have hl2 := Reads.len r2
 have hvs := hv.sink
 refine WSA tt_ok ?_
 refine WSR tt_ok 4 ?_
 refine AIX tt_ok p.2 2 [] (by kernel_rfl) (fun hG => ⟨by omega, by omega⟩) ?_
 refine ARDG tt_ok 26 4 p.2 4 1 [] (.g [.int .i64 (pix b.b.shores p.2).fl.lo, .int .i64 (pix b.b.shores p.2).fl.hi, .int .i64 (pix b.b.shores p.2).lo, .int .i64 (pix b.b.shores p.2).hi]) (by kernel_rfl) (by kernel_rfl) (by kernel_rfl) (fun hG => (by rcases (show p.2 = 0 ∨ p.2 = 1 by omega) with h | h <;> rw [h] <;> kernel_rfl)) ?_
 refine WPA tt_ok ?_
 refine WP_seq (WP_draw (by kernel_rfl) (by kernel_rfl) ?_)
 refine WPQ_run tt_ok 5 (by kernel_rfl) ?_
 refine QCALL 140 [.g [.int .i64 b.b.empty.lo, .int .i64 b.b.empty.hi]] (.s (.int .i64 (endLo b.b.empty))) [] (by kernel_rfl) (goes_of (by kernel_rfl)) (by kernel_rfl) (by kernel_rfl) (fun hG nV w h => endLo_calls  b.b.empty w  ) ?_
 refine WPQ_run tt_ok 9 (by kernel_rfl) ?_
 refine QBIN .quo 3 (.tmp 32) (.tmp 35) (.s (.int .i64 (IntKind.i64.wrap ((IntKind.i64.wrap (load + b.b.sink)) - 1)))) (.s (.int .i64 b.b.sink)) (.s (.int .i64 (IntKind.i64.wrap (Int.tdiv (IntKind.i64.wrap ((IntKind.i64.wrap (load + b.b.sink)) - 1)) b.b.sink)))) [] (by kernel_rfl) (by kernel_rfl) (by kernel_rfl) (fun _ => BinOk_quo (by omega)) ?_
 refine WPQ_all tt_ok (by kernel_rfl) ?_
 refine WSR tt_ok 3 ?_
 refine AIX tt_ok p.2 2 [] (by kernel_rfl) (fun hG => ⟨by omega, by omega⟩) ?_
 refine ARD tt_ok 6 p.2 1 0 [] 148 [.int .i64 f.1, .int .i64 f.2] (.int .i64 (pix f p.2)) (by kernel_rfl) (by kernel_rfl) (by kernel_rfl) (fun hG => (by rcases (show p.2 = 0 ∨ p.2 = 1 by omega) with h | h <;> rw [h] <;> kernel_rfl)) ?_
 refine WPO_run tt_ok 9 (by kernel_rfl) ?_
 refine CAL 67 [.s (.int .i64 height), .s (.int .i64 (pix b.b.shores p.2).lo), .s (.int .i64 (pix b.b.shores p.2).hi)] (.s (.bool (withinL height (pix b.b.shores p.2).lo (pix b.b.shores p.2).hi))) [(decide ((IntKind.i64.wrap (height - (pix f p.2))) ≥ (IntKind.i64.wrap ((IntKind.i64.wrap ((endLo b.b.empty) + (IntKind.i64.wrap (Int.tdiv (IntKind.i64.wrap ((IntKind.i64.wrap (load + b.b.sink)) - 1)) b.b.sink)))) + b.b.under))), true)] (fun hG nV w h => withinL_calls  height (pix b.b.shores p.2).lo (pix b.b.shores p.2).hi w  ) ?_
 refine WPA tt_ok ?_
 refine WP_ret ?_
 exact ⟨.s (.bool ((decide ((IntKind.i64.wrap (height - (pix f p.2))) ≥ (IntKind.i64.wrap ((IntKind.i64.wrap ((endLo b.b.empty) + (IntKind.i64.wrap (Int.tdiv (IntKind.i64.wrap ((IntKind.i64.wrap (load + b.b.sink)) - 1)) b.b.sink)))) + b.b.under)))) && (withinL height (pix b.b.shores p.2).lo (pix b.b.shores p.2).hi))), by kernel_rfl, fun nV w' h => ⟨by rw [show landsLo b p load height f = ((decide ((IntKind.i64.wrap (height - (pix f p.2))) ≥ (IntKind.i64.wrap ((IntKind.i64.wrap ((endLo b.b.empty) + (IntKind.i64.wrap (Int.tdiv (IntKind.i64.wrap ((IntKind.i64.wrap (load + b.b.sink)) - 1)) b.b.sink)))) + b.b.under)))) && (withinL height (pix b.b.shores p.2).lo (pix b.b.shores p.2).hi)) from rfl]; rfl, h.bel⟩⟩
def landsHi (b : LOpen) (p : Int × Int) (load : Int) (height : Int) (f : Int × Int) : Bool :=
 (decide ((IntKind.i64.wrap (height - (pix f p.2))) ≥ (IntKind.i64.wrap ((IntKind.i64.wrap ((endHi b.b.empty) + (IntKind.i64.wrap (Int.tdiv (IntKind.i64.wrap ((IntKind.i64.wrap (load + b.b.sink)) - 1)) b.b.sink)))) + b.b.under)))) && (withinL height (pix b.b.shores p.2).lo (pix b.b.shores p.2).hi)
theorem landsHi_calls (g0 g1 g2 : Value) (gm : Nat) (DL : List DRow) (b : LOpen) (p : Int × Int) (load : Int) (height : Int) (f : Int × Int) (w : World) (r0 : Reads w g0 2 b.b.tides encSpan zSpan) (r1 : Reads w g1 3 b.b.sounds encSound zSound) (r2 : Reads w g2 2 b.can encPr zPr) (hD : DeepAt encI gm DL w) (hv : ValidL b.b) (hp1 : 0 ≤ p.2 ∧ p.2 ≤ 1) : Calls Tryd.prog 137 #[.agg ((lanV g0 b.b [g1, .map (some gm), g2]).toArray), .agg #[iv p.1, iv p.2], iv load, iv height, .agg #[iv f.1, iv f.2], .agg #[.func (.func 141) #[] #[]]] w fun e w' => e = .returned (.bool (landsHi b p load height f)) ∧ Below w.heap.size w w' := by
 refine CW tt_ok [g0, g1, g2] 3 [.g (lanC (.ref 0) b.b [.ref 1, .v (.map (some gm)), .ref 2]), .g [.int .i64 p.1, .int .i64 p.2], .s (.int .i64 load), .s (.int .i64 height), .g [.int .i64 f.1, .int .i64 f.2], .g [.v (.func (.func 141) #[] #[])]] (roL b.b [(2, .sl .ro 148 2 b.can encPr zPr), (3, .pf (DeepAt encI gm DL) (ftR gm DL))]) 4 Tryd.func137 rfl rfl rfl (by simp [r0.one, r1.one, r2.one]) ⟨ro_in r0, ro_in r1, ro_in r2, ⟨⟨hD, fun w1 w2 h1 hw => DeepAt.stab w1 w2 h1 hw, fun g hg => hD.lt g hg⟩, (Nat.le_of_ble_eq_true rfl)⟩, trivial⟩ ?_
 have hl0 := Reads.len r0
 have hl1 := Reads.len r1
 have hl2 := Reads.len r2
 have hvs := hv.sink
 refine WSA tt_ok ?_
 refine WSR tt_ok 4 ?_
 refine AIX tt_ok p.2 2 [] (by kernel_rfl) (fun hG => ⟨by omega, by omega⟩) ?_
 refine ARDG tt_ok 26 4 p.2 4 1 [] (.g [.int .i64 (pix b.b.shores p.2).fl.lo, .int .i64 (pix b.b.shores p.2).fl.hi, .int .i64 (pix b.b.shores p.2).lo, .int .i64 (pix b.b.shores p.2).hi]) (by kernel_rfl) (by kernel_rfl) (by kernel_rfl) (fun hG => (by rcases (show p.2 = 0 ∨ p.2 = 1 by omega) with h | h <;> rw [h] <;> kernel_rfl)) ?_
 refine WPA tt_ok ?_
 refine WP_seq (WP_draw (by kernel_rfl) (by kernel_rfl) ?_)
 refine WPQ_run tt_ok 5 (by kernel_rfl) ?_
 refine QCALL 141 [.g [.int .i64 b.b.empty.lo, .int .i64 b.b.empty.hi]] (.s (.int .i64 (endHi b.b.empty))) [] (by kernel_rfl) (goes_of (by kernel_rfl)) (by kernel_rfl) (by kernel_rfl) (fun hG nV w h => endHi_calls  b.b.empty w  ) ?_
 refine WPQ_run tt_ok 9 (by kernel_rfl) ?_
 refine QBIN .quo 3 (.tmp 32) (.tmp 35) (.s (.int .i64 (IntKind.i64.wrap ((IntKind.i64.wrap (load + b.b.sink)) - 1)))) (.s (.int .i64 b.b.sink)) (.s (.int .i64 (IntKind.i64.wrap (Int.tdiv (IntKind.i64.wrap ((IntKind.i64.wrap (load + b.b.sink)) - 1)) b.b.sink)))) [] (by kernel_rfl) (by kernel_rfl) (by kernel_rfl) (fun _ => BinOk_quo (by omega)) ?_
 refine WPQ_all tt_ok (by kernel_rfl) ?_
 refine WSR tt_ok 3 ?_
 refine AIX tt_ok p.2 2 [] (by kernel_rfl) (fun hG => ⟨by omega, by omega⟩) ?_
 refine ARD tt_ok 6 p.2 1 0 [] 148 [.int .i64 f.1, .int .i64 f.2] (.int .i64 (pix f p.2)) (by kernel_rfl) (by kernel_rfl) (by kernel_rfl) (fun hG => (by rcases (show p.2 = 0 ∨ p.2 = 1 by omega) with h | h <;> rw [h] <;> kernel_rfl)) ?_
 refine WPO_run tt_ok 9 (by kernel_rfl) ?_
 refine CAL 67 [.s (.int .i64 height), .s (.int .i64 (pix b.b.shores p.2).lo), .s (.int .i64 (pix b.b.shores p.2).hi)] (.s (.bool (withinL height (pix b.b.shores p.2).lo (pix b.b.shores p.2).hi))) [(decide ((IntKind.i64.wrap (height - (pix f p.2))) ≥ (IntKind.i64.wrap ((IntKind.i64.wrap ((endHi b.b.empty) + (IntKind.i64.wrap (Int.tdiv (IntKind.i64.wrap ((IntKind.i64.wrap (load + b.b.sink)) - 1)) b.b.sink)))) + b.b.under))), true)] (fun hG nV w h => withinL_calls  height (pix b.b.shores p.2).lo (pix b.b.shores p.2).hi w  ) ?_
 refine WPA tt_ok ?_
 refine WP_ret ?_
 exact ⟨.s (.bool ((decide ((IntKind.i64.wrap (height - (pix f p.2))) ≥ (IntKind.i64.wrap ((IntKind.i64.wrap ((endHi b.b.empty) + (IntKind.i64.wrap (Int.tdiv (IntKind.i64.wrap ((IntKind.i64.wrap (load + b.b.sink)) - 1)) b.b.sink)))) + b.b.under)))) && (withinL height (pix b.b.shores p.2).lo (pix b.b.shores p.2).hi))), by kernel_rfl, fun nV w' h => ⟨by rw [show landsHi b p load height f = ((decide ((IntKind.i64.wrap (height - (pix f p.2))) ≥ (IntKind.i64.wrap ((IntKind.i64.wrap ((endHi b.b.empty) + (IntKind.i64.wrap (Int.tdiv (IntKind.i64.wrap ((IntKind.i64.wrap (load + b.b.sink)) - 1)) b.b.sink)))) + b.b.under)))) && (withinL height (pix b.b.shores p.2).lo (pix b.b.shores p.2).hi)) from rfl]; rfl, h.bel⟩⟩
end Go.Proofs.YtpfglknbkpcfnaaDoor.X
namespace Go.Proofs.YtpfglknbkpcfnaaDoor.Eng
open Go Go.RowKit
abbrev eDs (ds : List Nat) : HE := .jf (fun w => ds.Nodup ∧ ∀ D ∈ ds, w.heap[D]? = some (.deferred (some []))) (· ∈ ds)
section
variable {P : Program} {tt : TT} {cx : Cx} {s s' : AS} {Q : Exit → AS → Prop}
theorem Le_eDs0 : Le cx s (s.add (eDs [])) := fun n a w hs =>
 ⟨_, env_add hs (upd_lt n s.nx .nilFunc) (hs.heap.add (e := eDs []) (v := .nilFunc) (Below.refl _ w) rfl ⟨⟨List.nodup_nil, fun D hD => by cases hD⟩, fun g hg => (by cases hg), fun w1 w2 h _ => ⟨List.nodup_nil, fun D hD => by cases hD⟩⟩ trivial (fun g hg => (by cases hg)) (fun g hg => (by cases hg)))⟩
theorem Le_eDs {i j D : Nat} {ds : List Nat} (hi : fnd s.hp i = some (eD D)) (hj : fnd s.hp j = some (eDs ds)) (hne : Nat.beq i j = false) : Le cx s (({ s with hp := rem (rem s.hp i) j } : AS).add (eDs (D :: ds))) := fun n a w hs => by
 have h1 := hs.heap.ents _ (fnd_mem hi)
 have h2 := hs.heap.ents _ (fnd_mem hj)
 have hij : (i, eD D) ≠ (j, eDs ds) := fun h => by
  have := (Prod.mk.inj h).1; rw [this, Nat.beq_refl] at hne; cases hne
 have hsym : ∀ (x y : Nat × HE), ((x.2.mut = true ∨ y.2.mut = true) → ∀ g, x.2.foot (n x.1) g → ¬ y.2.foot (n y.1) g) → ((y.2.mut = true ∨ x.2.mut = true) → ∀ g, y.2.foot (n y.1) g → ¬ x.2.foot (n x.1) g) :=
  fun x y h hm g h1 h2 => h hm.symm g h2 h1
 have hnd : D ∉ ds := fun hD => pw_mem hsym hs.heap.sep (fnd_mem hi) (fnd_mem hj) hij (.inl rfl) D rfl hD
 have hs1 : Sat cx n { s with hp := rem s.hp i } a w := env_hp hs (rem_more s i) (hs.heap.rem i)
 have hs2 : Sat cx n { s with hp := rem (rem s.hp i) j } a w := env_hp hs1 (rem_more { s with hp := rem s.hp i } j) (hs1.heap.rem j)
 have hfoot : ∀ g, g ∈ D :: ds → g = D ∨ g ∈ ds := fun g hg => List.mem_cons.1 hg
 refine ⟨_, env_add hs2 (upd_lt n s.nx .nilFunc) (hs2.heap.add (e := eDs (D :: ds)) (v := .nilFunc) (Below.refl _ w) rfl ⟨⟨List.nodup_cons.2 ⟨hnd, h2.1.1⟩, fun g hg => ?_⟩, fun g hg => (hfoot g hg).elim (h1.2.1 g) (h2.2.1 g), fun w1 w2 h hw => ⟨h.1, fun g hg => (hw g hg).trans (h.2 g hg)⟩⟩ trivial
  (fun g hg => (hfoot g hg).elim (hs.heap.lt _ (fnd_mem hi) g) (hs.heap.lt _ (fnd_mem hj) g)) (fun g hg => .inr fun x hx _ hxg => ?_))⟩
 ·rcases hfoot g hg with rfl | h
  ·exact h1.1
  exact h2.1.2 g h
 have hx0 : x ∈ s.hp := (rem_sub s.hp i).subset ((rem_sub _ j).subset hx)
 rcases hfoot g hg with h | h
 ·exact pw_mem hsym hs.heap.sep hx0 (fnd_mem hi) (fun e => rem_ne ((rem_sub _ j).subset hx) (by rw [e])) (.inr rfl) g hxg h
 exact pw_mem hsym hs.heap.sep hx0 (fnd_mem hj) (fun e => rem_ne hx (by rw [e])) (.inr rfl) g hxg h
def RetQMs (tt : TT) (cx : Cx) (rs : List ResultVar) (R : Ending → World → Prop) : Exit → AS → Prop
 | .normal, s | .ret, s => (∃ r, resA tt s rs = some r ∧ ∀ n w, HSat cx n s w → R (.returned (r.c n)) w) ∨
  (∃ r ds id, s.df = ds ∧ fnd s.hp id = some (eDs ds) ∧ resM tt { s with hp := rem s.hp id } rs = some r ∧ ∀ n w, HSat cx n { s with hp := rem s.hp id } w → R (.returned (r.c n)) w)
 | _, _ => False
theorem leaves_marks {fn : Func} {tmps : Array Value} {R : Ending → World → Prop} {n : Vn} {s0 : AS} {a : Act} : ∀ (ds : List Nat) (w : World), Sat cx n s0 a w → ds.Nodup → (∀ D ∈ ds, w.heap[D]? = some (.deferred (some [])) ∧ cx.ok D ∧ ∀ x ∈ s0.hp, ¬ x.2.foot (n x.1) D) →
  (∀ w, Sat cx n s0 a w → LeavesInM Fence.wide 0 P fn tmps R [] .returning w) → LeavesInM Fence.wide 0 P fn tmps R (marks ds) .returning w
 | [], w, hs, _, _, hfin => hfin w hs
 | D :: ds, w, hs, hnd, hD, hfin => by
  obtain ⟨hn1, hn2⟩ := List.nodup_cons.1 hnd
  obtain ⟨h1, h2, h3⟩ := hD D List.mem_cons_self
  have hs2 : Sat cx n s0 a (w.putObj D (.deferred none)) := by
   refine ⟨?_, hs.size, hs.env, hs.defers⟩
   exact hs.heap.move (hs.heap.fr.grown (grownBy_putObj' w D (.deferred none)) (fun g hg => by cases hg; exact h2)) (by rw [World.putObj_size]; exact Nat.le_refl _) fun x hx g hg => World.putObj_heap_other fun e => h3 x hx (e ▸ hg)
  have ih := leaves_marks (fn := fn) (tmps := tmps) (R := R) ds _ hs2 hn2 (fun D' hD' => by
   obtain ⟨q1, q2, q3⟩ := hD D' (List.mem_cons_of_mem _ hD')
   have hne : D' ≠ D := fun e => hn1 (by rw [← e]; exact hD')
   exact ⟨(World.putObj_heap_other hne).trans q1, q2, q3⟩) hfin
  exact ⟨by simp, .inl ⟨D, _, rfl, run_takeDeferred h1, ih⟩⟩
theorem calls_of_WPMs (hT : TTok P tt) {k : FuncId} {fn : Func} {c : Code} {n : Vn} {w : World} {hp : List (Nat × HE)} {nx nt : Nat} {vs : List AV} {rs : List ResultVar} {R : Ending → World → Prop} (hf : P.funcs[k]? = some fn) (hb : fn.body = some c) (hnt : fn.ntmps = nt) (hrs : fn.results.toList = rs)
  (hl : Nat.ble vs.length nt = true) (hh : HSat cx n ⟨nt, env0 0 vs, hp, nx, []⟩ w) (hv : ∀ v ∈ vs, v.ok ⟨nt, env0 0 vs, hp, nx, []⟩)
  (h : WP P cx ⟨nt, env0 0 vs, hp, nx, []⟩ c (RetQMs tt cx rs R)) : Calls P k (vs.map (AV.c n)).toArray w R := by
 subst hnt
 have hl := Nat.le_of_ble_eq_true hl
 refine callsIn_wide.1 (callsIn_of_wp_marks (F := Fence.wide) (n := 0) hf hb trivial ?_)
 have hs : Sat cx n ⟨fn.ntmps, env0 0 vs, hp, nx, []⟩ { tmps := (vs.map (AV.c n)).toArray ++ Array.replicate (fn.ntmps - (vs.map (AV.c n)).toArray.size) undef, defers := [] } w := by
  refine ⟨hh, by simp; omega, fun x hx => ?_, rfl⟩
  obtain ⟨j, h1, h2, h3⟩ := env0_mem hx
  obtain ⟨hj, h2'⟩ := List.getElem?_eq_some_iff.1 h2
  refine ⟨by simp only; omega, fun _ => ⟨?_, hv _ (List.mem_of_getElem? h2)⟩, fun hn => absurd (by rw [h3]; intro y hy; cases hy) hn⟩
  rw [h1, Nat.zero_add]
  simp [Array.getD_eq_getD_getElem?, Array.getElem?_append, hj, h2']
 have fin : ∀ (n' : Vn) (s' : AS) (a : Act) (w' : World), Sat cx n' s' a w' → ((∃ r, resA tt s' rs = some r ∧ ∀ n w, HSat cx n s' w → R (.returned (r.c n)) w) ∨
   (∃ r ds id, s'.df = ds ∧ fnd s'.hp id = some (eDs ds) ∧ resM tt { s' with hp := rem s'.hp id } rs = some r ∧ ∀ n w, HSat cx n { s' with hp := rem s'.hp id } w → R (.returned (r.c n)) w)) →
   LeavesInM Fence.wide 0 P fn a.tmps R a.defers .returning w' := fun n' s' a w' hs' hq => by
  rcases hq with ⟨r, hr, hR⟩ | ⟨r, ds, id, hd, hf, hr, hR⟩
  ·obtain ⟨hd, hr⟩ := resA_spec hr
   rw [hs'.defers, hd]
   exact ⟨_, resA_sound hT hs' (by rw [hrs]; exact hr), hR n' w' hs'.heap⟩
  have hE := hs'.heap.ents _ (fnd_mem hf)
  have hsym : ∀ (x y : Nat × HE), Sep n' x y → Sep n' y x := fun x y h hm g h1 h2 => h hm.symm g h2 h1
  have hs2 : Sat cx n' { s' with hp := rem s'.hp id } a w' := env_hp hs' (rem_more s' id) (hs'.heap.rem id)
  rw [hs'.defers, hd]
  refine leaves_marks (s0 := { s' with hp := rem s'.hp id }) (a := a) ds w' hs2 hE.1.1 (fun D hD => ⟨hE.1.2 D hD, hE.2.1 D hD, fun x hx hg => ?_⟩) (fun w2 h2 => ⟨_, resA_sound hT h2 (by rw [hrs]; exact hr), hR n' _ h2.heap⟩)
  exact pw_mem hsym hs'.heap.sep ((rem_sub s'.hp id).subset hx) (fnd_mem hf) (fun e => rem_ne hx (by rw [e])) (.inr rfl) D hg hD
 refine wpIn_mono (h none 0 (fun _ => rfl) n _ w hs) fun e a w' ⟨n', s', hq, hs'⟩ => ?_
 cases e with
 | normal => exact fin n' s' a w' hs' hq
 | ret => exact fin n' s' a w' hs' hq
 | _ => exact hq.elim
def LD {σ ρ : Type} (cx : Cx) (id : Nat) (c : Nat → σ → Bool) (b : Nat → σ → Bd σ ρ) (N : Nat) (R : Out σ ρ) (cv : Nat → Int) (I : List Nat → Int → σ → AS) (E : List Nat → σ → AS) (pre : Nat → σ → Prop) (k : Nat) (Q : Exit → AS → Prop) : Exit → AS → Prop
 | .normal, s' => k < N ∧ ∃ ds ci v', ci = cv (k + 1) ∧ loopR c b (N - (k + 1)) (k + 1) v' = R ∧ pre (k + 1) v' ∧ Le cx s' (I ds ci v')
 | .exit i, s' => if i = id then ∃ ds v', R = .brk v' ∧ (∃ k', k' ≤ N ∧ pre k' v') ∧ Le cx s' (E ds v') else Q (.exit i) s'
 | e, s' => Q e s'
theorem WP_loopD {σ ρ : Type} {id : Nat} {body : Code} (c : Nat → σ → Bool) (b : Nat → σ → Bd σ ρ) (N : Nat) (v0 : σ) (cv : Nat → Int) (I : List Nat → Int → σ → AS) (E : List Nat → σ → AS) (pre : Nat → σ → Prop)
  (h0 : pre 0 v0) (hl : ∃ ci, ci = cv 0 ∧ ∃ ds, Le cx s (I ds ci v0)) (hb : ∀ ds k v, k ≤ N → pre k v → loopR c b (N - k) k v = loopR c b N 0 v0 → ∀ Q', Q' = LD cx id c b N (loopR c b N 0 v0) cv I E pre k Q → (∀ s, ¬ Q' .outgrown s) → WP P cx (I ds (cv k) v) body Q')
  (hQ : ∀ ds v, loopR c b N 0 v0 = .brk v → (∃ k', k' ≤ N ∧ pre k' v) → ∀ s', Le cx s' (E ds v) → Q .normal s')
  (ho : ∀ s, ¬ Q .outgrown s := by first | exact fun _ h => h | assumption) : WP P cx s (.block id (.loop body)) Q := by
 obtain ⟨ci, hci, ds0, hl⟩ := hl
 refine WP_block (WP_loop (σ := Nat × Int × List Nat × σ) (fun x => I x.2.2.1 x.2.1 x.2.2.2) (fun x => x.1 ≤ N ∧ x.2.1 = cv x.1 ∧ pre x.1 x.2.2.2 ∧ loopR c b (N - x.1) x.1 x.2.2.2 = loopR c b N 0 v0) (fun x => N - x.1) (0, ci, ds0, v0) ⟨Nat.zero_le _, hci, h0, rfl⟩ hl ?_)
 rintro ⟨k, ci, ds, v⟩ ⟨hk, hci, hp, hR⟩
 simp only at hk hci hp hR
 subst hci
 refine (hb ds k v hk hp hR _ rfl (fun s h => ho s h)).mono fun e s' h => ?_
 cases e with
 | normal =>
  obtain ⟨hlt, ds', ci, v', h1, h2, h3, h4⟩ := h
  exact ⟨(k + 1, ci, ds', v'), ⟨hlt, h1, h3, h2⟩, by simp only; omega, h4⟩
 | exit i =>
  simp only [Nx, Blk]
  simp only [LD] at h
  split
  ·rename_i hi; rw [if_pos hi] at h; obtain ⟨ds', v', h1, h2, h3⟩ := h; exact hQ ds' v' h1 h2 s' h3
  rename_i hi; rw [if_neg hi] at h; exact h
 | _ => exact h
section
variable {Q' : Exit → AS → Prop} {σ ρ : Type} {id i : Nat} {c : Nat → σ → Bool} {b : Nat → σ → Bd σ ρ} {N : Nat} {R : Out σ ρ} {cv : Nat → Int} {I : List Nat → Int → σ → AS} {E : List Nat → σ → AS} {pre : Nat → σ → Prop} {k : Nat}
theorem LD_go (hQ : Q' = LD cx id c b N R cv I E pre k Q) (ds : List Nat) {ci : Int} (v' : σ) (h1 : k < N) (h2 : ci = cv (k + 1)) (h3 : loopR c b (N - (k + 1)) (k + 1) v' = R) (h4 : pre (k + 1) v') (h5 : Le cx s' (I ds ci v')) : Q' .normal s' := hQ ▸ ⟨h1, ds, ci, v', h2, h3, h4, h5⟩
theorem LD_exit (hQ : Q' = LD cx id c b N R cv I E pre k Q) (ds : List Nat) (v' : σ) (h1 : R = .brk v') (h3 : ∃ k', k' ≤ N ∧ pre k' v') (h2 : Le cx s' (E ds v')) : Q' (.exit id) s' := by
 subst hQ
 simp only [LD, if_pos]
 exact ⟨ds, v', h1, h3, h2⟩
theorem LD_ret (hQ : Q' = LD cx id c b N R cv I E pre k Q) (h : Q .ret s') : Q' .ret s' := hQ ▸ h
end
end
end Go.Proofs.YtpfglknbkpcfnaaDoor.Eng
namespace Go.Proofs.YtpfglknbkpcfnaaDoor.X
open Go Go.RowKit Go.Proofs.YtpfglknbkpcfnaaDoor.Eng Go.Proofs.YtpfglknbkpcfnaaDoor.Fw
def okB (c : Int → Bool) (l : List Int) : Prop := ∀ x ∈ l, c x = false
def stB (c : Int → Bool) (l : List Int) : Prop := ∃ x ∈ l, c x = true
theorem okB_snoc {c : Int → Bool} {l : List Int} {x : Int} (h : okB c l) (hx : c x = false) : okB c (l ++ [x]) := fun y hy => by
 rcases List.mem_append.1 hy with hy | hy
 ·exact h y hy
 rw [List.mem_singleton.1 hy]; exact hx
theorem stB_snoc {c : Int → Bool} {l : List Int} {x : Int} (hx : c x = true) : stB c (l ++ [x]) := ⟨x, by simp, hx⟩
theorem any_of_stB {c : Int → Bool} {l q : List Int} (h : stB c q) (hp : q <+: l) : l.any c = true := by
 obtain ⟨x, hx, hc⟩ := h
 exact List.any_eq_true.2 ⟨x, hp.subset hx, hc⟩
theorem any_of_okB {c : Int → Bool} {l : List Int} (h : okB c l) : l.any c = false := by
 rw [List.any_eq_false]
 intro x hx
 rw [h x hx]; decide
theorem heights_ok10 {cx : Cx} {s s1 : AS} {H : List (Nat × HE)} {b : LOpen} {hour : Int} {f : Int × Int} {gm : Nat} (h1 : s.hp = H) (h2 : s.nx = 10)
  (h3 : s1.hp = (13, .clo 115 [] [.s (.p 10 0), .s (.p 11 0), .s (.p 12 0)]) :: (12, .box 148 [ai f.1, ai f.2]) :: (11, .box 3 [ai hour]) :: (10, .box 128 (lanC (.ref 0) b.b [.ref 1, .v (.map (some gm)), .ref 2])) :: H) (h4 : s1.nx = 14) :
  CallOk Tryd.prog cx s 105 [.g (lanC (.ref 0) b.b [.ref 1, .v (.map (some gm)), .ref 2]), .s (ai hour), .g [ai f.1, ai f.2]] (.s (.ref 13)) s1 := by
 intro n w hh
 have hh2 : HSat ⟨cx.w0, cx.ok, n, 10, true⟩ n ⟨8, env0 0 [.g (lanC (.ref 0) b.b [.ref 1, .v (.map (some gm)), .ref 2]), .s (ai hour), .g [ai f.1, ai f.2]], H, 10, []⟩ w :=
  (HSat.top (b := true) hh).of_same (s2 := ⟨8, env0 0 [.g (lanC (.ref 0) b.b [.ref 1, .v (.map (some gm)), .ref 2]), .s (ai hour), .g [ai f.1, ai f.2]], H, 10, []⟩) h1.symm h2.symm |> fun h => by rw [h2] at h; exact h
 refine calls_of_WP (cx := ⟨cx.w0, cx.ok, n, 10, true⟩) (n := n) (vs := [.g (lanC (.ref 0) b.b [.ref 1, .v (.map (some gm)), .ref 2]), .s (ai hour), .g [ai f.1, ai f.2]]) (hp := H) (nx := 10) tt_ok Tryd.func105 rfl rfl rfl (by kernel_rfl) hh2 (vsOk (by kernel_rfl)) ?_
 refine WSA tt_ok ?_
 refine WSA tt_ok ?_
 refine WP_ret ?_
 exact ⟨.s (.ref 13), by kernel_rfl, fun n1 w' h => ⟨n1, fun id hid => h.ini id (by rw [← h2]; exact hid), rfl, ((h.of_same (s2 := s1) (by rw [h3]; kernel_rfl) (by rw [h4]; kernel_rfl)).back (fun id hid => hh.ini id hid) (by have := hh.inx; rw [h2] at this; exact this))⟩⟩
theorem heightsM_iter (b : LOpen) (hour : Int) (f : Int × Int) (gm : Nat) (DL : List DRow) (hv : ValidL b.b) (hh0 : 0 ≤ hour ∧ hour < b.b.tides.length) (hS : DL.map dkStrip = deepS b.b) : IterOk Tryd.prog 115 [.s (.p 10 0), .s (.p 11 0), .s (.p 12 0)] [(10, .box 128 (lanC (.ref 0) b.b [.ref 1, .v (.map (some gm)), .ref 2])), (11, .box 3 [.int .i64 hour]), (12, .box 148 [.int .i64 f.1, .int .i64 f.2])] (roL b.b [(2, .sl .ro 148 2 b.can encPr zPr), (3, .pf (DeepAt encI gm DL) (ftR gm DL))]) 15 encH (heightsD b hour f) := by
 intro cx n w LL RF GR J Jx G0 hJ hJx hY hh
 have e : (#[.func (.yield LL) #[] #[]] ++ (([.s (.p 10 0), .s (.p 11 0), .s (.p 12 0)] : List AV).map (AV.c n)).toArray : Array Value) = (([.s (.v (.func (.yield LL) #[] #[])), .s (.p 10 0), .s (.p 11 0), .s (.p 12 0)] : List AV).map (AV.c n)).toArray := by simp [AV.c, AC.c]
 rw [e]
 have htd := hv.tide hh0
 have hnH : IntKind.i64.wrap (IntKind.i64.wrap ((b.b.tides.getD hour.toNat zSpan).hi - (b.b.tides.getD hour.toNat zSpan).lo) + 1) = (nH b.b hour : Int) := by rw [wrapI (x := (b.b.tides.getD hour.toNat zSpan).hi - (b.b.tides.getD hour.toNat zSpan).lo) (by omega) (by omega), wrapI (by omega) (by omega)]; unfold nH; omega
 have hn24 := hv.nt.2
 refine calls_of_WP (cx := ⟨cx.w0, cx.ok, n, 17, true⟩) (n := n) (vs := [.s (.v (.func (.yield LL) #[] #[])), .s (.p 10 0), .s (.p 11 0), .s (.p 12 0)]) (hp := ((15, .jf (J ([]) G0) G0) :: (16, .pf RF GR) :: (10, .box 128 (lanC (.ref 0) b.b [.ref 1, .v (.map (some gm)), .ref 2])) :: (11, .box 3 [.int .i64 hour]) :: (12, .box 148 [.int .i64 f.1, .int .i64 f.2]) :: (roL b.b [(2, .sl .ro 148 2 b.can encPr zPr), (3, .pf (DeepAt encI gm DL) (ftR gm DL))]))) (nx := 17) tt_ok Tryd.func115 rfl rfl rfl (by kernel_rfl) (hh.top.slots) (vsOk (by kernel_rfl)) ?_
 refine WP_scope ?_
 refine WSR tt_ok 4 ?_
 refine IX tt_ok hour b.b.tides.length [] (by kernel_rfl) (fun hG => ⟨by omega, by omega⟩) ?_
 refine WPA tt_ok ?_
 refine WSA tt_ok ?_
 refine WP_seq (WP_label ?_)
 refine WSA tt_ok ?_
 refine WP_block (WP_loop (σ := Int × List Int × (Nat → Prop)) (fun zz => ⟨42, [(22, [], .s (.int .i64 zz.1)), (21, [], .s (.int .i64 (IntKind.i64.wrap ((IntKind.i64.wrap ((b.b.tides.getD hour.toNat zSpan).hi - (b.b.tides.getD hour.toNat zSpan).lo)) + 1)))), (6, [], .s (.ref 18)), (5, [], .s (.p 17 0)), (0, [], .s (.v (.func (.yield LL) #[] #[]))), (2, [], .s (.p 11 0)), (3, [], .s (.p 12 0))], ((18, .clo 116 [.g (lanC (.ref 0) b.b [.ref 1, .v (.map (some gm)), .ref 2])] []) :: (17, .box 24 [.int .i64 (b.b.tides.getD hour.toNat zSpan).lo, .int .i64 (b.b.tides.getD hour.toNat zSpan).hi]) :: (15, .jf (J zz.2.1 zz.2.2) zz.2.2) :: (16, .pf RF GR) :: (10, .box 128 (lanC (.ref 0) b.b [.ref 1, .v (.map (some gm)), .ref 2])) :: (11, .box 3 [.int .i64 hour]) :: (12, .box 148 [.int .i64 f.1, .int .i64 f.2]) :: (roL b.b [(2, .sl .ro 148 2 b.can encPr zPr), (3, .pf (DeepAt encI gm DL) (ftR gm DL))])), 19, []⟩) (fun zz => ∃ k : Nat, k ≤ nH b.b hour ∧ zz.1 = k ∧ zz.2.1 = preH b hour f k) (fun zz => nH b.b hour - zz.1.toNat) (0, [], G0) (⟨0, by omega, rfl, rfl⟩) (Le_sel (ts := [22, 21, 6, 5, 0, 2, 3]) (ids := [18, 17, 15, 16, 10, 11, 12, 0, 1, 2, 3]) (nx := 19) (by kernel_rfl)) ?_)
 rintro ⟨ii, pre, G⟩ hinv
 obtain ⟨k, hk0, hii, hpre⟩ := hinv
 simp only at hii hpre
 subst hii
 subst hpre
 refine WSA tt_ok ?_
 refine WP_seq (WP_cond (decide ((k : Int) < (IntKind.i64.wrap ((IntKind.i64.wrap ((b.b.tides.getD hour.toNat zSpan).hi - (b.b.tides.getD hour.toNat zSpan).lo)) + 1)))) (by kernel_rfl) (fun hc2 => ?_) (fun hc2 => ?_))
 ·have hc2' := of_decide_eq_true hc2
  rw [hnH] at hc2'
  have hk : k < nH b.b hour := by omega
  have hk4 : (k : Int) ≤ 4 := by unfold nH at hk; omega
  have hwr : IntKind.i64.wrap ((b.b.tides.getD hour.toNat zSpan).lo + (k : Int)) = ((b.b.tides.getD hour.toNat zSpan).lo + (k : Int)) := wrapI (by omega) (by omega)
  refine WP_skip ?_
  refine WP_seq (WP_block ?_)
  refine WSA tt_ok ?_
  refine WP_seq (WP_seq (WP_region (WPO_run tt_ok 7 (by kernel_rfl) ?_)))
  refine CAL 116 [.g (lanC (.ref 0) b.b [.ref 1, .v (.map (some gm)), .ref 2]), .s (.int .i64 hour), .s (.int .i64 (IntKind.i64.wrap ((b.b.tides.getD hour.toNat zSpan).lo + (k : Int)))), .g [.int .i64 f.1, .int .i64 f.2]] (.s (.bool (rightD b hour (IntKind.i64.wrap ((b.b.tides.getD hour.toNat zSpan).lo + (k : Int))) f))) [] (fun hG nV w h => rightD_calls (nV 0) (nV 1) (nV 2) gm DL b hour (IntKind.i64.wrap ((b.b.tides.getD hour.toNat zSpan).lo + (k : Int))) f w (h.rd 0 24) (h.rd 1 112) (h.rd 2 148) (h.ents (3, .pf (DeepAt encI gm DL) (ftR gm DL)) (fnd_mem (by kernel_rfl))).1 (by first | assumption | omega)) ?_
  refine WPA tt_ok ?_
  refine WP_cond (!(rightD b hour (IntKind.i64.wrap ((b.b.tides.getD hour.toNat zSpan).lo + (k : Int))) f)) (by kernel_rfl) (fun hc4 => ?_) (fun hc4 => ?_)
  ·have hc4' := hc4; try simp only [bfs, ne_eq] at hc4'
   refine WP_exit ?_
   refine WRA tt_ok ?_
   refine ⟨(IntKind.i64.wrap ((k : Int) + 1), preH b hour f k, G), ?_, ?_, Le_sel (ts := [22, 21, 6, 5, 0, 2, 3]) (ids := [18, 17, 15, 16, 10, 11, 12, 0, 1, 2, 3]) (nx := 19) (by kernel_rfl)⟩
   ·refine ⟨k + 1, by omega, by simp only; rw [wrapI (by omega) (by omega)]; rfl, ?_⟩
    simp only
    rw [preH_succ]
    first
    | rw [if_neg (by rw [← hwr, hc4']; decide), List.append_nil]
    | rw [if_pos (by rw [← hwr]; exact hc4')]
   simp only
   rw [wrapI (by omega) (by omega)]
   omega
  have hc4' := hc4; try simp only [bfs, ne_eq] at hc4'
  refine WP_skip ?_
  have hgo : preH b hour f (k + 1) = preH b hour f k ++ [((b.b.tides.getD hour.toNat zSpan).lo + (k : Int))] := by rw [preH_succ, if_pos (by rw [← hwr]; exact hc4')]
  refine WP_seq (WP_yield tt_ok 5 (preH b hour f k) ((b.b.tides.getD hour.toNat zSpan).lo + (k : Int)) LL 15 16 [.s (.int .i64 (IntKind.i64.wrap ((b.b.tides.getD hour.toNat zSpan).lo + (k : Int))))] (some 39) G GR encH (heightsD b hour f) RF J Jx (by kernel_rfl) (by kernel_rfl) (by kernel_rfl) (by kernel_rfl) hJ hJx hY (by (rw [← hgo]; exact preH_prefix (by omega))) (fun n => by (rw [hwr]; rfl)) (fun F' G' b => by kernel_rfl) (fun G' => ?_) (fun G' => ?_))
  ·refine WP_cond (!true) (by kernel_rfl) (fun h => by cases h) (fun hc5 => ?_)
   refine WP_skip ?_
   refine WRA tt_ok ?_
   refine ⟨(IntKind.i64.wrap ((k : Int) + 1), preH b hour f k ++ [((b.b.tides.getD hour.toNat zSpan).lo + (k : Int))], G'), ?_, ?_, Le_sel (ts := [22, 21, 6, 5, 0, 2, 3]) (ids := [18, 17, 15, 16, 10, 11, 12, 0, 1, 2, 3]) (nx := 19) (by kernel_rfl)⟩
   ·refine ⟨k + 1, by omega, by simp only; rw [wrapI (by omega) (by omega)]; rfl, ?_⟩
    simp only
    rw [preH_succ]
    first
    | rw [if_neg (by rw [← hwr, hc4']; decide), List.append_nil]
    | rw [if_pos (by rw [← hwr]; exact hc4')]
   simp only
   rw [wrapI (by omega) (by omega)]
   omega
  refine WP_cond (!false) (by kernel_rfl) (fun hc6 => ?_) (fun h => by cases h)
  refine WP_ret ?_
  exact ⟨.t [], by kernel_rfl, fun n1 w' h => ⟨⟨_, rfl⟩, n1, G', preH b hour f k ++ [((b.b.tides.getD hour.toNat zSpan).lo + (k : Int))], fun id hid => h.ini id hid, .inr ⟨(by rw [← hgo]; exact preH_prefix (by omega)), (h.back hh.ini hh.inx).two (by kernel_rfl) (by kernel_rfl) rfl 17 hh.inx (by omega) (by omega)⟩⟩⟩
 have hc2' := of_decide_eq_false hc2
 refine WP_exit ?_
 rw [hnH] at hc2'
 have hkn : k = nH b.b hour := by omega
 exact ⟨.t [], by kernel_rfl, fun n1 w' h => ⟨⟨_, rfl⟩, n1, G, preH b hour f k, fun id hid => h.ini id hid, .inl ⟨by unfold heightsD; rw [hkn], (h.back hh.ini hh.inx).two (by kernel_rfl) (by kernel_rfl) rfl 17 hh.inx (by omega) (by omega)⟩⟩⟩
theorem lowE_calls (w : World) : Calls Tryd.prog 138 #[] w fun e w' => e = .returned (.agg #[.func (.func 140) #[] #[]]) ∧ Below w.heap.size w w' := by
 refine C0 tt_ok [] Tryd.func138 rfl rfl rfl ?_
 refine WSA tt_ok ?_
 refine WSA tt_ok ?_
 refine WP_ret ?_
 exact ⟨.g [.v (.func (.func 140) #[] #[])], by kernel_rfl, fun n w' h => ⟨rfl, h.bel⟩⟩
theorem highE_calls (w : World) : Calls Tryd.prog 139 #[] w fun e w' => e = .returned (.agg #[.func (.func 141) #[] #[]]) ∧ Below w.heap.size w w' := by
 refine C0 tt_ok [] Tryd.func139 rfl rfl rfl ?_
 refine WSA tt_ok ?_
 refine WSA tt_ok ?_
 refine WP_ret ?_
 exact ⟨.g [.v (.func (.func 141) #[] #[])], by kernel_rfl, fun n w' h => ⟨rfl, h.bel⟩⟩
def mayD_c1 (b : LOpen) (p : Int × Int) (load : Int) (k1 : Nat) : Unit → Bool := fun _ => decide ((k1 : Int) < (b.can.length : Int))
def mayD_b1 (b : LOpen) (p : Int × Int) (load : Int) (k1 : Nat) : Unit → Bd Unit Bool := fun _ => (bif ((heightsD b p.1 (b.can.getD k1 zPr)).any (fun x => landsLo b p load x (b.can.getD k1 zPr))) then .ret true else .go ())
def mayD (b : LOpen) (p : Int × Int) (load : Int) : Bool :=
 (match loopR (mayD_c1 b p load) (mayD_b1 b p load) b.can.length 0 () with | .brk () => false | .ret r => r)
theorem mayD_calls (g0 g1 g2 : Value) (gm : Nat) (DL : List DRow) (b : LOpen) (p : Int × Int) (load : Int) (w : World) (r0 : Reads w g0 2 b.b.tides encSpan zSpan) (r1 : Reads w g1 3 b.b.sounds encSound zSound) (r2 : Reads w g2 2 b.can encPr zPr) (hD : DeepAt encI gm DL w) (hS : DL.map dkStrip = deepS b.b) (hv : ValidL b.b) (hp0 : 0 ≤ p.1 ∧ p.1 < b.b.tides.length) (hp1 : 0 ≤ p.2 ∧ p.2 ≤ 1) : Calls Tryd.prog 132 #[.agg ((lanV g0 b.b [g1, .map (some gm), g2]).toArray), .agg #[iv p.1, iv p.2], iv load] w fun e w' => e = .returned (.bool (mayD b p load)) ∧ Below w.heap.size w w' := by
 refine calls_of_WPMs (cx := cx0 w (vn [g0, g1, g2]) 3) (n := vn [g0, g1, g2]) (vs := [.g (lanC (.ref 0) b.b [.ref 1, .v (.map (some gm)), .ref 2]), .g [.int .i64 p.1, .int .i64 p.2], .s (.int .i64 load)]) (hp := (roL b.b [(2, .sl .ro 148 2 b.can encPr zPr), (3, .pf (DeepAt encI gm DL) (ftR gm DL))])) (nx := 4) tt_ok Tryd.func132 rfl rfl rfl (by kernel_rfl) (HSat_args (vn_one (by simp [r0.one, r1.one, r2.one])) (by decide) ⟨ro_in r0, ro_in r1, ro_in r2, ⟨⟨hD, fun w1 w2 h1 hw => DeepAt.stab w1 w2 h1 hw, fun g hg => hD.lt g hg⟩, (Nat.le_of_ble_eq_true rfl)⟩, trivial⟩) (vsOk (by kernel_rfl)) ?_
 have hl0 := Reads.len r0
 have hl1 := Reads.len r1
 have hl2 := Reads.len r2
 refine WSA tt_ok ?_
 refine WP_seq (WSA tt_ok ?_)
 refine WP_le Le_eDs0 ?_
 refine WP_loopD (ρ := Bool) (mayD_c1 b p load) (mayD_b1 b p load) b.can.length () (fun k : Nat => (k : Int)) (fun (ds : List Nat) (ci : Int) (zz : Unit) => ⟨31, [(13, [], .s (.int .i64 ci)), (12, [], .s (.int .i64 (b.can.length : Int))), (11, [], .s (.ref 2)), (6, [], .s (.p 7 0)), (5, [], .s (.p 6 0)), (4, [], .s (.p 5 0)), (3, [], .s (.p 4 0))], ((8, eDs ds) :: (7, .box 4 [.bool false]) :: (6, .box 3 [.int .i64 load]) :: (5, .box 136 [.int .i64 p.1, .int .i64 p.2]) :: (4, .box 128 (lanC (.ref 0) b.b [.ref 1, .v (.map (some gm)), .ref 2])) :: (roL b.b [(2, .sl .ro 148 2 b.can encPr zPr), (3, .pf (DeepAt encI gm DL) (ftR gm DL))])), 9, ds⟩) (fun (ds : List Nat) (zz : Unit) => ⟨31, [(6, [], .s (.p 7 0))], ((8, eDs ds) :: (7, .box 4 [.bool false]) :: (6, .box 3 [.int .i64 load]) :: (5, .box 136 [.int .i64 p.1, .int .i64 p.2]) :: (4, .box 128 (lanC (.ref 0) b.b [.ref 1, .v (.map (some gm)), .ref 2])) :: (roL b.b [(2, .sl .ro 148 2 b.can encPr zPr), (3, .pf (DeepAt encI gm DL) (ftR gm DL))])), 9, ds⟩) (fun k zz => True) trivial ⟨0, rfl, ([]), Le_sel (ts := [13, 12, 11, 6, 5, 4, 3]) (ids := [8, 7, 6, 5, 4, 0, 1, 2, 3]) (nx := 9) (by kernel_rfl)⟩ ?_ ?_
 ·intro ds1 k1 zz hn1 hp1 hi1 Q1 hq1 ho1
  refine WSA tt_ok ?_
  refine WP_seq (WP_cond (decide ((k1 : Int) < (b.can.length : Int))) (by kernel_rfl) (fun hc1 => ?_) (fun hc1 => ?_))
  rotate_left
  ·refine WP_exit ?_
   show Q1 (.exit 0) _
   exact LD_exit hq1 ds1 () (loopR_end hi1 hc1) ⟨k1, hn1, hp1⟩ (Le_sel (ts := [6]) (ids := [8, 7, 6, 5, 4, 0, 1, 2, 3]) (nx := 9) (by kernel_rfl))
  have hc1' := of_decide_eq_true hc1
  have hk1 : k1 < b.can.length := by omega
  refine WP_skip ?_
  refine WP_seq (WP_block ?_)
  refine WP_seq (WP_region (IX tt_ok (k1 : Int) b.can.length [] (by kernel_rfl) (fun hG => ⟨by omega, by omega⟩) ?_))
  refine WPA tt_ok ?_
  refine WSR tt_ok 4 ?_
  refine CALLN 105 [.g (lanC (.ref 0) b.b [.ref 1, .v (.map (some gm)), .ref 2]), .s (.int .i64 p.1), .g [.int .i64 (b.can.getD k1 zPr).1, .int .i64 (b.can.getD k1 zPr).2]] ⟨31, [(20, [], .g [.int .i64 (b.can.getD k1 zPr).1, .int .i64 (b.can.getD k1 zPr).2]), (19, [], .s (.int .i64 p.1)), (18, [], .s (.p 5 0)), (17, [], .g (lanC (.ref 0) b.b [.ref 1, .v (.map (some gm)), .ref 2])), (8, [], .s (.p 9 0)), (16, [], .g [.int .i64 (b.can.getD k1 zPr).1, .int .i64 (b.can.getD k1 zPr).2]), (15, [], .s (.ep 2 (k1 : Int) 2 0)), (14, [], .s (.bool (decide ((k1 : Int) < (b.can.length : Int))))), (13, [], .s (.int .i64 (k1 : Int))), (12, [], .s (.int .i64 (b.can.length : Int))), (11, [], .s (.ref 2)), (6, [], .s (.p 7 0)), (5, [], .s (.p 6 0)), (4, [], .s (.p 5 0)), (3, [], .s (.p 4 0))], ((13, .clo 115 [] [.s (.p 10 0), .s (.p 11 0), .s (.p 12 0)]) :: (12, .box 148 [.int .i64 (b.can.getD k1 zPr).1, .int .i64 (b.can.getD k1 zPr).2]) :: (11, .box 3 [.int .i64 p.1]) :: (10, .box 128 (lanC (.ref 0) b.b [.ref 1, .v (.map (some gm)), .ref 2])) :: (9, .box 148 [.int .i64 (b.can.getD k1 zPr).1, .int .i64 (b.can.getD k1 zPr).2]) :: (8, eDs ds1) :: (7, .box 4 [.bool false]) :: (6, .box 3 [.int .i64 load]) :: (5, .box 136 [.int .i64 p.1, .int .i64 p.2]) :: (4, .box 128 (lanC (.ref 0) b.b [.ref 1, .v (.map (some gm)), .ref 2])) :: (roL b.b [(2, .sl .ro 148 2 b.can encPr zPr), (3, .pf (DeepAt encI gm DL) (ftR gm DL))])), 14, ds1⟩ (.s (.ref 13)) (by kernel_rfl) (goes_of (by kernel_rfl)) (by kernel_rfl) (by kernel_rfl) (more_ext 4 (by kernel_rfl) (by kernel_rfl) (by kernel_rfl)) ⟨(by kernel_rfl), (by kernel_rfl), (by kernel_rfl)⟩ (heights_ok10 (H := ((9, .box 148 [.int .i64 (b.can.getD k1 zPr).1, .int .i64 (b.can.getD k1 zPr).2]) :: (8, eDs ds1) :: (7, .box 4 [.bool false]) :: (6, .box 3 [.int .i64 load]) :: (5, .box 136 [.int .i64 p.1, .int .i64 p.2]) :: (4, .box 128 (lanC (.ref 0) b.b [.ref 1, .v (.map (some gm)), .ref 2])) :: (roL b.b [(2, .sl .ro 148 2 b.can encPr zPr), (3, .pf (DeepAt encI gm DL) (ftR gm DL))]))) (by kernel_rfl) (by kernel_rfl) (by kernel_rfl) (by kernel_rfl)) ?_
  refine WPO_nil ?_
  refine WP_block ?_
  refine WP_le (Le_addT (okB (fun x => landsLo b p load x (b.can.getD k1 zPr)) ([])) (fun x hx => by cases hx)) ?_
  refine WP_le (s' := ⟨31, [(8, [], .s (.p 9 0)), (13, [], .s (.int .i64 (k1 : Int))), (12, [], .s (.int .i64 (b.can.length : Int))), (11, [], .s (.ref 2)), (6, [], .s (.p 7 0)), (5, [], .s (.p 6 0)), (4, [], .s (.p 5 0)), (3, [], .s (.p 4 0)), (21, [], .s (.ref 13))], ((14, jT (okB (fun x => landsLo b p load x (b.can.getD k1 zPr)) ([]))) :: (13, .clo 115 [] [.s (.p 10 0), .s (.p 11 0), .s (.p 12 0)]) :: (12, .box 148 [.int .i64 (b.can.getD k1 zPr).1, .int .i64 (b.can.getD k1 zPr).2]) :: (11, .box 3 [.int .i64 p.1]) :: (10, .box 128 (lanC (.ref 0) b.b [.ref 1, .v (.map (some gm)), .ref 2])) :: (9, .box 148 [.int .i64 (b.can.getD k1 zPr).1, .int .i64 (b.can.getD k1 zPr).2]) :: (8, eDs ds1) :: (7, .box 4 [.bool false]) :: (6, .box 3 [.int .i64 load]) :: (5, .box 136 [.int .i64 p.1, .int .i64 p.2]) :: (4, .box 128 (lanC (.ref 0) b.b [.ref 1, .v (.map (some gm)), .ref 2])) :: (roL b.b [(2, .sl .ro 148 2 b.can encPr zPr), (3, .pf (DeepAt encI gm DL) (ftR gm DL))])), 15, ds1⟩) (Le_sel (ts := [8, 13, 12, 11, 6, 5, 4, 3, 21]) (ids := [14, 13, 12, 11, 10, 9, 8, 7, 6, 5, 4, 0, 1, 2, 3]) (nx := 15) (by kernel_rfl)) ?_
  refine WP_range tt_ok rfl (heightsD b p.1 (b.can.getD k1 zPr)) encH (fun x : Int => ([.s (ai x)] : List AV)) [8, 13, 12, 11, 6, 5, 4, 3] [(8, [], .s (.p 9 0)), (13, [], .s (.int .i64 (k1 : Int))), (12, [], .s (.int .i64 (b.can.length : Int))), (11, [], .s (.ref 2)), (6, [], .s (.p 7 0)), (5, [], .s (.p 6 0)), (4, [], .s (.p 5 0)), (3, [], .s (.p 4 0))] 13 115 [.s (.p 10 0), .s (.p 11 0), .s (.p 12 0)] (fun pre => [(14, jT (okB (fun x => landsLo b p load x (b.can.getD k1 zPr)) (pre))), (9, .box 148 [.int .i64 (b.can.getD k1 zPr).1, .int .i64 (b.can.getD k1 zPr).2]), (8, eDs ds1), (7, .box 4 [.bool false]), (6, .box 3 [.int .i64 load]), (5, .box 136 [.int .i64 p.1, .int .i64 p.2]), (4, .box 128 (lanC (.ref 0) b.b [.ref 1, .v (.map (some gm)), .ref 2]))]) (fun c pre => match c with | .ret => some [(14, jT (stB (fun x => landsLo b p load x (b.can.getD k1 zPr)) (pre))), (9, .box 148 [.int .i64 (b.can.getD k1 zPr).1, .int .i64 (b.can.getD k1 zPr).2]), (8, eDs ds1), (7, .box 4 [.bool true]), (6, .box 3 [.int .i64 load]), (5, .box 136 [.int .i64 p.1, .int .i64 p.2]), (4, .box 128 (lanC (.ref 0) b.b [.ref 1, .v (.map (some gm)), .ref 2]))] | _ => none) [(10, .box 128 (lanC (.ref 0) b.b [.ref 1, .v (.map (some gm)), .ref 2])), (11, .box 3 [.int .i64 p.1]), (12, .box 148 [.int .i64 (b.can.getD k1 zPr).1, .int .i64 (b.can.getD k1 zPr).2])] (roL b.b [(2, .sl .ro 148 2 b.can encPr zPr), (3, .pf (DeepAt encI gm DL) (ftR gm DL))]) (by kernel_rfl) (by kernel_rfl) (goes_of (by kernel_rfl)) (by kernel_rfl) (by repeat (first | exact trivial | refine ⟨by kernel_rfl, ?_⟩)) (by kernel_rfl) (fun pre => (by kernel_rfl)) (fun c pre Mr h => by cases c <;> first | (cases h; kernel_rfl) | (cases h; done)) (by kernel_rfl) (fun x n => rfl) (fun x => rfl) (fun x v hv => by simp only [List.mem_singleton] at hv; rw [hv]; rfl) (fun v hv => by simp at hv; rcases hv with rfl | rfl | rfl <;> kernel_rfl) (heightsM_iter b p.1 (b.can.getD k1 zPr) gm DL hv hp0 hS) ?round ?done ?stop
  case round =>
   intro pre x hpre w0 ok n0 L D FL FB hn0
   refine ⟨⟨31, [(22, [], .s (.int .i64 x)), (8, [], .s (.p 9 0)), (13, [], .s (.int .i64 (k1 : Int))), (12, [], .s (.int .i64 (b.can.length : Int))), (11, [], .s (.ref 2)), (6, [], .s (.p 7 0)), (5, [], .s (.p 6 0)), (4, [], .s (.p 5 0)), (3, [], .s (.p 4 0))], ((15, eL L FL) :: (16, eD D) :: (14, jT (okB (fun x => landsLo b p load x (b.can.getD k1 zPr)) (pre))) :: (9, .box 148 [.int .i64 (b.can.getD k1 zPr).1, .int .i64 (b.can.getD k1 zPr).2]) :: (8, eDs ds1) :: (7, .box 4 [.bool false]) :: (6, .box 3 [.int .i64 load]) :: (5, .box 136 [.int .i64 p.1, .int .i64 p.2]) :: (4, .box 128 (lanC (.ref 0) b.b [.ref 1, .v (.map (some gm)), .ref 2])) :: (roL b.b [(2, .sl .ro 148 2 b.can encPr zPr), (3, .pf (DeepAt encI gm DL) (ftR gm DL))])), 17, []⟩, by kernel_rfl, ?_⟩
   refine WRA tt_ok ?_
   refine ⟨by kernel_rfl, ?_⟩
   refine WP_block ?_
   refine WP_seq (WP_draw (by kernel_rfl) (by kernel_rfl) ?_)
   refine WPQ_run tt_ok 5 (by kernel_rfl) ?_
   refine QCALL 138 [] (.g [.v (.func (.func 140) #[] #[])]) [] (by kernel_rfl) (goes_of (by kernel_rfl)) (by kernel_rfl) (by kernel_rfl) (fun _ n w h => lowE_calls w) ?_
   refine QCALL 137 [.g (lanC (.ref 0) b.b [.ref 1, .v (.map (some gm)), .ref 2]), .g [.int .i64 p.1, .int .i64 p.2], .s (.int .i64 load), .s (.int .i64 x), .g [.int .i64 (b.can.getD k1 zPr).1, .int .i64 (b.can.getD k1 zPr).2], .g [.v (.func (.func 140) #[] #[])]] (.s (.bool (landsLo b p load x (b.can.getD k1 zPr)))) [] (by kernel_rfl) (goes_of (by kernel_rfl)) (by kernel_rfl) (by kernel_rfl) (fun _ nV w h => landsLo_calls (nV 0) (nV 1) (nV 2) gm DL b p load x (b.can.getD k1 zPr) w (h.rd 0 24) (h.rd 1 112) (h.rd 2 148) (h.ents (3, .pf (DeepAt encI gm DL) (ftR gm DL)) (fnd_mem (by kernel_rfl))).1 (by first | assumption | omega) (by first | assumption | omega)) ?_
   refine WPQ_nil ?_
   refine WP_cond (landsLo b p load x (b.can.getD k1 zPr)) (by kernel_rfl) (fun hc3 => ?_) (fun hc3 => ?_)
   ·refine WSA tt_ok ?_
    refine WP_ret ?_
    refine ⟨_, rfl, ?_⟩
    refine Le.trans (Le_T (id := 14) (stB (fun x => landsLo b p load x (b.can.getD k1 zPr)) (pre ++ [x])) (by kernel_rfl) (fun (_ : okB (fun x => landsLo b p load x (b.can.getD k1 zPr)) pre) => stB_snoc (by assumption))) ?_
    exact Le_sel (ts := []) (ids := [15, 16, 14, 9, 8, 7, 6, 5, 4, 0, 1, 2, 3]) (nx := 17) (by kernel_rfl)
   refine WP_skip ?_
   refine Le.trans (Le_T (id := 14) (okB (fun x => landsLo b p load x (b.can.getD k1 zPr)) (pre ++ [x])) (by kernel_rfl) (fun h => okB_snoc h (by assumption))) ?_
   exact Le_sel (ts := []) (ids := [15, 16, 14, 9, 8, 7, 6, 5, 4, 0, 1, 2, 3]) (nx := 17) (by kernel_rfl)
  case stop =>
   intro D c pre Mr h hpre
   cases c <;> try (cases h; done)
   cases h
   refine WP_T (id := 14) (p := stB (fun x => landsLo b p load x (b.can.getD k1 zPr)) (pre)) (by kernel_rfl) (fun hst => ?_)
   have hcF : ((heightsD b p.1 (b.can.getD k1 zPr)).any (fun x => landsLo b p load x (b.can.getD k1 zPr))) = true := any_of_stB hst hpre
   refine WP_le (Le_eDs (i := 16) (j := 8) (D := D) (ds := ds1) (by kernel_rfl) (by kernel_rfl) (by kernel_rfl)) ?_
   refine WP_ret ?_
   show Q1 .ret _
   refine LD_ret hq1 ?_
   have he4 := loopR_ret (r := true) hi1 hk1 hc1 (by unfold mayD_b1; simp only [hcF, cond_true, cond_false])
   exact .inr ⟨.s (.bool true), (D :: ds1), 17, by kernel_rfl, by kernel_rfl, by kernel_rfl, fun nV w' h => ⟨by rw [show mayD b p load = true from by unfold mayD; simp only [he4, cond_true, cond_false]]; rfl, h.bel⟩⟩
  case done =>
   intro D
   refine WP_T (id := 14) (p := okB (fun x => landsLo b p load x (b.can.getD k1 zPr)) (heightsD b p.1 (b.can.getD k1 zPr))) (by kernel_rfl) (fun hok => ?_)
   have hcF : ((heightsD b p.1 (b.can.getD k1 zPr)).any (fun x => landsLo b p load x (b.can.getD k1 zPr))) = false := any_of_okB hok
   refine WP_le (Le_eDs (i := 16) (j := 8) (D := D) (ds := ds1) (by kernel_rfl) (by kernel_rfl) (by kernel_rfl)) ?_
   refine WRA tt_ok ?_
   show Q1 .normal _
   exact LD_go hq1 (D :: ds1) (ci := IntKind.i64.wrap ((k1 : Int) + 1)) () hk1 (by show _ = ((k1 + 1 : Nat) : Int); rw [wrapI (by omega) (by omega)]; omega) (loopR_go hi1 hk1 hc1 (by unfold mayD_b1; simp only [hcF, cond_true, cond_false])) trivial (Le_ren [(8, 17)] (by repeat (first | exact trivial | refine ⟨by kernel_rfl, ?_⟩)) ⟨by kernel_rfl, rfl, by kernel_rfl, by kernel_rfl, rfl, by kernel_rfl, by kernel_rfl, rfl, by kernel_rfl, by kernel_rfl, rfl, by kernel_rfl, by kernel_rfl, rfl, by kernel_rfl, by kernel_rfl, rfl, by kernel_rfl, by kernel_rfl, rfl, by kernel_rfl, trivial⟩ (by kernel_rfl) (by kernel_rfl) (rnm_id (m := 3) (by kernel_rfl)) (by show 3 ≤ 9; decide) (by kernel_rfl) (by kernel_rfl))
 intro ds1_ zz hR1 hP1 s' hl
 refine WP_le hl ?_
 clear hl s'
 refine WSA tt_ok ?_
 refine WP_ret ?_
 exact .inr ⟨.s (.bool false), ds1_, 8, by kernel_rfl, by kernel_rfl, by kernel_rfl, fun nV w' h => ⟨by rw [show mayD b p load = false from by unfold mayD; simp only [hR1, cond_true, cond_false]]; rfl, h.bel⟩⟩
def mustD_c1 (b : LOpen) (p : Int × Int) (load : Int) (k1 : Nat) : Unit → Bool := fun _ => decide ((k1 : Int) < (b.can.length : Int))
def mustD_b1 (b : LOpen) (p : Int × Int) (load : Int) (k1 : Nat) : Unit → Bd Unit Bool := fun _ => (bif ((heightsD b p.1 (b.can.getD k1 zPr)).any (fun x => !landsHi b p load x (b.can.getD k1 zPr))) then .ret false else .go ())
def mustD (b : LOpen) (p : Int × Int) (load : Int) : Bool :=
 (match loopR (mustD_c1 b p load) (mustD_b1 b p load) b.can.length 0 () with | .brk () => true | .ret r => r)
theorem mustD_calls (g0 g1 g2 : Value) (gm : Nat) (DL : List DRow) (b : LOpen) (p : Int × Int) (load : Int) (w : World) (r0 : Reads w g0 2 b.b.tides encSpan zSpan) (r1 : Reads w g1 3 b.b.sounds encSound zSound) (r2 : Reads w g2 2 b.can encPr zPr) (hD : DeepAt encI gm DL w) (hS : DL.map dkStrip = deepS b.b) (hv : ValidL b.b) (hp0 : 0 ≤ p.1 ∧ p.1 < b.b.tides.length) (hp1 : 0 ≤ p.2 ∧ p.2 ≤ 1) : Calls Tryd.prog 136 #[.agg ((lanV g0 b.b [g1, .map (some gm), g2]).toArray), .agg #[iv p.1, iv p.2], iv load] w fun e w' => e = .returned (.bool (mustD b p load)) ∧ Below w.heap.size w w' := by
 refine calls_of_WPMs (cx := cx0 w (vn [g0, g1, g2]) 3) (n := vn [g0, g1, g2]) (vs := [.g (lanC (.ref 0) b.b [.ref 1, .v (.map (some gm)), .ref 2]), .g [.int .i64 p.1, .int .i64 p.2], .s (.int .i64 load)]) (hp := (roL b.b [(2, .sl .ro 148 2 b.can encPr zPr), (3, .pf (DeepAt encI gm DL) (ftR gm DL))])) (nx := 4) tt_ok Tryd.func136 rfl rfl rfl (by kernel_rfl) (HSat_args (vn_one (by simp [r0.one, r1.one, r2.one])) (by decide) ⟨ro_in r0, ro_in r1, ro_in r2, ⟨⟨hD, fun w1 w2 h1 hw => DeepAt.stab w1 w2 h1 hw, fun g hg => hD.lt g hg⟩, (Nat.le_of_ble_eq_true rfl)⟩, trivial⟩) (vsOk (by kernel_rfl)) ?_
 have hl0 := Reads.len r0
 have hl1 := Reads.len r1
 have hl2 := Reads.len r2
 refine WSA tt_ok ?_
 refine WP_seq (WSA tt_ok ?_)
 refine WP_le Le_eDs0 ?_
 refine WP_loopD (ρ := Bool) (mustD_c1 b p load) (mustD_b1 b p load) b.can.length () (fun k : Nat => (k : Int)) (fun (ds : List Nat) (ci : Int) (zz : Unit) => ⟨32, [(13, [], .s (.int .i64 ci)), (12, [], .s (.int .i64 (b.can.length : Int))), (11, [], .s (.ref 2)), (6, [], .s (.p 7 0)), (5, [], .s (.p 6 0)), (4, [], .s (.p 5 0)), (3, [], .s (.p 4 0))], ((8, eDs ds) :: (7, .box 4 [.bool false]) :: (6, .box 3 [.int .i64 load]) :: (5, .box 136 [.int .i64 p.1, .int .i64 p.2]) :: (4, .box 128 (lanC (.ref 0) b.b [.ref 1, .v (.map (some gm)), .ref 2])) :: (roL b.b [(2, .sl .ro 148 2 b.can encPr zPr), (3, .pf (DeepAt encI gm DL) (ftR gm DL))])), 9, ds⟩) (fun (ds : List Nat) (zz : Unit) => ⟨32, [(6, [], .s (.p 7 0))], ((8, eDs ds) :: (7, .box 4 [.bool false]) :: (6, .box 3 [.int .i64 load]) :: (5, .box 136 [.int .i64 p.1, .int .i64 p.2]) :: (4, .box 128 (lanC (.ref 0) b.b [.ref 1, .v (.map (some gm)), .ref 2])) :: (roL b.b [(2, .sl .ro 148 2 b.can encPr zPr), (3, .pf (DeepAt encI gm DL) (ftR gm DL))])), 9, ds⟩) (fun k zz => True) trivial ⟨0, rfl, ([]), Le_sel (ts := [13, 12, 11, 6, 5, 4, 3]) (ids := [8, 7, 6, 5, 4, 0, 1, 2, 3]) (nx := 9) (by kernel_rfl)⟩ ?_ ?_
 ·intro ds1 k1 zz hn1 hp1 hi1 Q1 hq1 ho1
  refine WSA tt_ok ?_
  refine WP_seq (WP_cond (decide ((k1 : Int) < (b.can.length : Int))) (by kernel_rfl) (fun hc1 => ?_) (fun hc1 => ?_))
  rotate_left
  ·refine WP_exit ?_
   show Q1 (.exit 0) _
   exact LD_exit hq1 ds1 () (loopR_end hi1 hc1) ⟨k1, hn1, hp1⟩ (Le_sel (ts := [6]) (ids := [8, 7, 6, 5, 4, 0, 1, 2, 3]) (nx := 9) (by kernel_rfl))
  have hc1' := of_decide_eq_true hc1
  have hk1 : k1 < b.can.length := by omega
  refine WP_skip ?_
  refine WP_seq (WP_block ?_)
  refine WP_seq (WP_region (IX tt_ok (k1 : Int) b.can.length [] (by kernel_rfl) (fun hG => ⟨by omega, by omega⟩) ?_))
  refine WPA tt_ok ?_
  refine WSR tt_ok 4 ?_
  refine CALLN 105 [.g (lanC (.ref 0) b.b [.ref 1, .v (.map (some gm)), .ref 2]), .s (.int .i64 p.1), .g [.int .i64 (b.can.getD k1 zPr).1, .int .i64 (b.can.getD k1 zPr).2]] ⟨32, [(20, [], .g [.int .i64 (b.can.getD k1 zPr).1, .int .i64 (b.can.getD k1 zPr).2]), (19, [], .s (.int .i64 p.1)), (18, [], .s (.p 5 0)), (17, [], .g (lanC (.ref 0) b.b [.ref 1, .v (.map (some gm)), .ref 2])), (8, [], .s (.p 9 0)), (16, [], .g [.int .i64 (b.can.getD k1 zPr).1, .int .i64 (b.can.getD k1 zPr).2]), (15, [], .s (.ep 2 (k1 : Int) 2 0)), (14, [], .s (.bool (decide ((k1 : Int) < (b.can.length : Int))))), (13, [], .s (.int .i64 (k1 : Int))), (12, [], .s (.int .i64 (b.can.length : Int))), (11, [], .s (.ref 2)), (6, [], .s (.p 7 0)), (5, [], .s (.p 6 0)), (4, [], .s (.p 5 0)), (3, [], .s (.p 4 0))], ((13, .clo 115 [] [.s (.p 10 0), .s (.p 11 0), .s (.p 12 0)]) :: (12, .box 148 [.int .i64 (b.can.getD k1 zPr).1, .int .i64 (b.can.getD k1 zPr).2]) :: (11, .box 3 [.int .i64 p.1]) :: (10, .box 128 (lanC (.ref 0) b.b [.ref 1, .v (.map (some gm)), .ref 2])) :: (9, .box 148 [.int .i64 (b.can.getD k1 zPr).1, .int .i64 (b.can.getD k1 zPr).2]) :: (8, eDs ds1) :: (7, .box 4 [.bool false]) :: (6, .box 3 [.int .i64 load]) :: (5, .box 136 [.int .i64 p.1, .int .i64 p.2]) :: (4, .box 128 (lanC (.ref 0) b.b [.ref 1, .v (.map (some gm)), .ref 2])) :: (roL b.b [(2, .sl .ro 148 2 b.can encPr zPr), (3, .pf (DeepAt encI gm DL) (ftR gm DL))])), 14, ds1⟩ (.s (.ref 13)) (by kernel_rfl) (goes_of (by kernel_rfl)) (by kernel_rfl) (by kernel_rfl) (more_ext 4 (by kernel_rfl) (by kernel_rfl) (by kernel_rfl)) ⟨(by kernel_rfl), (by kernel_rfl), (by kernel_rfl)⟩ (heights_ok10 (H := ((9, .box 148 [.int .i64 (b.can.getD k1 zPr).1, .int .i64 (b.can.getD k1 zPr).2]) :: (8, eDs ds1) :: (7, .box 4 [.bool false]) :: (6, .box 3 [.int .i64 load]) :: (5, .box 136 [.int .i64 p.1, .int .i64 p.2]) :: (4, .box 128 (lanC (.ref 0) b.b [.ref 1, .v (.map (some gm)), .ref 2])) :: (roL b.b [(2, .sl .ro 148 2 b.can encPr zPr), (3, .pf (DeepAt encI gm DL) (ftR gm DL))]))) (by kernel_rfl) (by kernel_rfl) (by kernel_rfl) (by kernel_rfl)) ?_
  refine WPO_nil ?_
  refine WP_block ?_
  refine WP_le (Le_addT (okB (fun x => !landsHi b p load x (b.can.getD k1 zPr)) ([])) (fun x hx => by cases hx)) ?_
  refine WP_le (s' := ⟨32, [(8, [], .s (.p 9 0)), (13, [], .s (.int .i64 (k1 : Int))), (12, [], .s (.int .i64 (b.can.length : Int))), (11, [], .s (.ref 2)), (6, [], .s (.p 7 0)), (5, [], .s (.p 6 0)), (4, [], .s (.p 5 0)), (3, [], .s (.p 4 0)), (21, [], .s (.ref 13))], ((14, jT (okB (fun x => !landsHi b p load x (b.can.getD k1 zPr)) ([]))) :: (13, .clo 115 [] [.s (.p 10 0), .s (.p 11 0), .s (.p 12 0)]) :: (12, .box 148 [.int .i64 (b.can.getD k1 zPr).1, .int .i64 (b.can.getD k1 zPr).2]) :: (11, .box 3 [.int .i64 p.1]) :: (10, .box 128 (lanC (.ref 0) b.b [.ref 1, .v (.map (some gm)), .ref 2])) :: (9, .box 148 [.int .i64 (b.can.getD k1 zPr).1, .int .i64 (b.can.getD k1 zPr).2]) :: (8, eDs ds1) :: (7, .box 4 [.bool false]) :: (6, .box 3 [.int .i64 load]) :: (5, .box 136 [.int .i64 p.1, .int .i64 p.2]) :: (4, .box 128 (lanC (.ref 0) b.b [.ref 1, .v (.map (some gm)), .ref 2])) :: (roL b.b [(2, .sl .ro 148 2 b.can encPr zPr), (3, .pf (DeepAt encI gm DL) (ftR gm DL))])), 15, ds1⟩) (Le_sel (ts := [8, 13, 12, 11, 6, 5, 4, 3, 21]) (ids := [14, 13, 12, 11, 10, 9, 8, 7, 6, 5, 4, 0, 1, 2, 3]) (nx := 15) (by kernel_rfl)) ?_
  refine WP_range tt_ok rfl (heightsD b p.1 (b.can.getD k1 zPr)) encH (fun x : Int => ([.s (ai x)] : List AV)) [8, 13, 12, 11, 6, 5, 4, 3] [(8, [], .s (.p 9 0)), (13, [], .s (.int .i64 (k1 : Int))), (12, [], .s (.int .i64 (b.can.length : Int))), (11, [], .s (.ref 2)), (6, [], .s (.p 7 0)), (5, [], .s (.p 6 0)), (4, [], .s (.p 5 0)), (3, [], .s (.p 4 0))] 13 115 [.s (.p 10 0), .s (.p 11 0), .s (.p 12 0)] (fun pre => [(14, jT (okB (fun x => !landsHi b p load x (b.can.getD k1 zPr)) (pre))), (9, .box 148 [.int .i64 (b.can.getD k1 zPr).1, .int .i64 (b.can.getD k1 zPr).2]), (8, eDs ds1), (7, .box 4 [.bool false]), (6, .box 3 [.int .i64 load]), (5, .box 136 [.int .i64 p.1, .int .i64 p.2]), (4, .box 128 (lanC (.ref 0) b.b [.ref 1, .v (.map (some gm)), .ref 2]))]) (fun c pre => match c with | .ret => some [(14, jT (stB (fun x => !landsHi b p load x (b.can.getD k1 zPr)) (pre))), (9, .box 148 [.int .i64 (b.can.getD k1 zPr).1, .int .i64 (b.can.getD k1 zPr).2]), (8, eDs ds1), (7, .box 4 [.bool false]), (6, .box 3 [.int .i64 load]), (5, .box 136 [.int .i64 p.1, .int .i64 p.2]), (4, .box 128 (lanC (.ref 0) b.b [.ref 1, .v (.map (some gm)), .ref 2]))] | _ => none) [(10, .box 128 (lanC (.ref 0) b.b [.ref 1, .v (.map (some gm)), .ref 2])), (11, .box 3 [.int .i64 p.1]), (12, .box 148 [.int .i64 (b.can.getD k1 zPr).1, .int .i64 (b.can.getD k1 zPr).2])] (roL b.b [(2, .sl .ro 148 2 b.can encPr zPr), (3, .pf (DeepAt encI gm DL) (ftR gm DL))]) (by kernel_rfl) (by kernel_rfl) (goes_of (by kernel_rfl)) (by kernel_rfl) (by repeat (first | exact trivial | refine ⟨by kernel_rfl, ?_⟩)) (by kernel_rfl) (fun pre => (by kernel_rfl)) (fun c pre Mr h => by cases c <;> first | (cases h; kernel_rfl) | (cases h; done)) (by kernel_rfl) (fun x n => rfl) (fun x => rfl) (fun x v hv => by simp only [List.mem_singleton] at hv; rw [hv]; rfl) (fun v hv => by simp at hv; rcases hv with rfl | rfl | rfl <;> kernel_rfl) (heightsM_iter b p.1 (b.can.getD k1 zPr) gm DL hv hp0 hS) ?round ?done ?stop
  case round =>
   intro pre x hpre w0 ok n0 L D FL FB hn0
   refine ⟨⟨32, [(22, [], .s (.int .i64 x)), (8, [], .s (.p 9 0)), (13, [], .s (.int .i64 (k1 : Int))), (12, [], .s (.int .i64 (b.can.length : Int))), (11, [], .s (.ref 2)), (6, [], .s (.p 7 0)), (5, [], .s (.p 6 0)), (4, [], .s (.p 5 0)), (3, [], .s (.p 4 0))], ((15, eL L FL) :: (16, eD D) :: (14, jT (okB (fun x => !landsHi b p load x (b.can.getD k1 zPr)) (pre))) :: (9, .box 148 [.int .i64 (b.can.getD k1 zPr).1, .int .i64 (b.can.getD k1 zPr).2]) :: (8, eDs ds1) :: (7, .box 4 [.bool false]) :: (6, .box 3 [.int .i64 load]) :: (5, .box 136 [.int .i64 p.1, .int .i64 p.2]) :: (4, .box 128 (lanC (.ref 0) b.b [.ref 1, .v (.map (some gm)), .ref 2])) :: (roL b.b [(2, .sl .ro 148 2 b.can encPr zPr), (3, .pf (DeepAt encI gm DL) (ftR gm DL))])), 17, []⟩, by kernel_rfl, ?_⟩
   refine WRA tt_ok ?_
   refine ⟨by kernel_rfl, ?_⟩
   refine WP_block ?_
   refine WP_seq (WP_draw (by kernel_rfl) (by kernel_rfl) ?_)
   refine WPQ_run tt_ok 5 (by kernel_rfl) ?_
   refine QCALL 139 [] (.g [.v (.func (.func 141) #[] #[])]) [] (by kernel_rfl) (goes_of (by kernel_rfl)) (by kernel_rfl) (by kernel_rfl) (fun _ n w h => highE_calls w) ?_
   refine QCALL 137 [.g (lanC (.ref 0) b.b [.ref 1, .v (.map (some gm)), .ref 2]), .g [.int .i64 p.1, .int .i64 p.2], .s (.int .i64 load), .s (.int .i64 x), .g [.int .i64 (b.can.getD k1 zPr).1, .int .i64 (b.can.getD k1 zPr).2], .g [.v (.func (.func 141) #[] #[])]] (.s (.bool (landsHi b p load x (b.can.getD k1 zPr)))) [] (by kernel_rfl) (goes_of (by kernel_rfl)) (by kernel_rfl) (by kernel_rfl) (fun _ nV w h => landsHi_calls (nV 0) (nV 1) (nV 2) gm DL b p load x (b.can.getD k1 zPr) w (h.rd 0 24) (h.rd 1 112) (h.rd 2 148) (h.ents (3, .pf (DeepAt encI gm DL) (ftR gm DL)) (fnd_mem (by kernel_rfl))).1 (by first | assumption | omega) (by first | assumption | omega)) ?_
   refine WPQ_all tt_ok (by kernel_rfl) ?_
   refine WP_cond (!(landsHi b p load x (b.can.getD k1 zPr))) (by kernel_rfl) (fun hc3 => ?_) (fun hc3 => ?_)
   ·have hc3' := hc3; try simp only [bfs, ne_eq] at hc3'
    refine WSA tt_ok ?_
    refine WP_ret ?_
    refine ⟨_, rfl, ?_⟩
    refine Le.trans (Le_T (id := 14) (stB (fun x => !landsHi b p load x (b.can.getD k1 zPr)) (pre ++ [x])) (by kernel_rfl) (fun (_ : okB (fun x => !landsHi b p load x (b.can.getD k1 zPr)) pre) => stB_snoc (by assumption))) ?_
    exact Le_sel (ts := []) (ids := [15, 16, 14, 9, 8, 7, 6, 5, 4, 0, 1, 2, 3]) (nx := 17) (by kernel_rfl)
   have hc3' := hc3; try simp only [bfs, ne_eq] at hc3'
   refine WP_skip ?_
   refine Le.trans (Le_T (id := 14) (okB (fun x => !landsHi b p load x (b.can.getD k1 zPr)) (pre ++ [x])) (by kernel_rfl) (fun h => okB_snoc h (by assumption))) ?_
   exact Le_sel (ts := []) (ids := [15, 16, 14, 9, 8, 7, 6, 5, 4, 0, 1, 2, 3]) (nx := 17) (by kernel_rfl)
  case stop =>
   intro D c pre Mr h hpre
   cases c <;> try (cases h; done)
   cases h
   refine WP_T (id := 14) (p := stB (fun x => !landsHi b p load x (b.can.getD k1 zPr)) (pre)) (by kernel_rfl) (fun hst => ?_)
   have hcF : ((heightsD b p.1 (b.can.getD k1 zPr)).any (fun x => !landsHi b p load x (b.can.getD k1 zPr))) = true := any_of_stB hst hpre
   refine WP_le (Le_eDs (i := 16) (j := 8) (D := D) (ds := ds1) (by kernel_rfl) (by kernel_rfl) (by kernel_rfl)) ?_
   refine WP_ret ?_
   show Q1 .ret _
   refine LD_ret hq1 ?_
   have he4 := loopR_ret (r := false) hi1 hk1 hc1 (by unfold mustD_b1; simp only [hcF, cond_true, cond_false])
   exact .inr ⟨.s (.bool false), (D :: ds1), 17, by kernel_rfl, by kernel_rfl, by kernel_rfl, fun nV w' h => ⟨by rw [show mustD b p load = false from by unfold mustD; simp only [he4, cond_true, cond_false]]; rfl, h.bel⟩⟩
  case done =>
   intro D
   refine WP_T (id := 14) (p := okB (fun x => !landsHi b p load x (b.can.getD k1 zPr)) (heightsD b p.1 (b.can.getD k1 zPr))) (by kernel_rfl) (fun hok => ?_)
   have hcF : ((heightsD b p.1 (b.can.getD k1 zPr)).any (fun x => !landsHi b p load x (b.can.getD k1 zPr))) = false := any_of_okB hok
   refine WP_le (Le_eDs (i := 16) (j := 8) (D := D) (ds := ds1) (by kernel_rfl) (by kernel_rfl) (by kernel_rfl)) ?_
   refine WRA tt_ok ?_
   show Q1 .normal _
   exact LD_go hq1 (D :: ds1) (ci := IntKind.i64.wrap ((k1 : Int) + 1)) () hk1 (by show _ = ((k1 + 1 : Nat) : Int); rw [wrapI (by omega) (by omega)]; omega) (loopR_go hi1 hk1 hc1 (by unfold mustD_b1; simp only [hcF, cond_true, cond_false])) trivial (Le_ren [(8, 17)] (by repeat (first | exact trivial | refine ⟨by kernel_rfl, ?_⟩)) ⟨by kernel_rfl, rfl, by kernel_rfl, by kernel_rfl, rfl, by kernel_rfl, by kernel_rfl, rfl, by kernel_rfl, by kernel_rfl, rfl, by kernel_rfl, by kernel_rfl, rfl, by kernel_rfl, by kernel_rfl, rfl, by kernel_rfl, by kernel_rfl, rfl, by kernel_rfl, trivial⟩ (by kernel_rfl) (by kernel_rfl) (rnm_id (m := 3) (by kernel_rfl)) (by show 3 ≤ 9; decide) (by kernel_rfl) (by kernel_rfl))
 intro ds1_ zz hR1 hP1 s' hl
 refine WP_le hl ?_
 clear hl s'
 refine WSA tt_ok ?_
 refine WP_ret ?_
 exact .inr ⟨.s (.bool true), ds1_, 8, by kernel_rfl, by kernel_rfl, by kernel_rfl, fun nV w' h => ⟨by rw [show mustD b p load = true from by unfold mustD; simp only [hR1, cond_true, cond_false]]; rfl, h.bel⟩⟩
end Go.Proofs.YtpfglknbkpcfnaaDoor.X
