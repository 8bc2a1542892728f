/-
  DeckEnds: for every book, whatever numbers choose, the law returns true, and leaves all as it was. Conditions: none but the row's own.
-/
import Derived.Test.YthfnedbpmdkdjaaDoorDeckEndsA3
import Derived.ArgAppend
import Derived.Below
import Derived.Carry
import Derived.ChangeKeysEq
import Derived.ControlIn
import Derived.Deep.DeepHandedRow
import Derived.Deep.DeepWitnessRowRef
import Derived.Deep.Draws
import Derived.Deep.Quiet
import Derived.Deep.Slices
import Derived.KernelRfl
import Derived.LaidMore
import Derived.Laws.AppendOwn
import Derived.Laws.Cells
import Derived.Laws.CopyRow
import Derived.Laws.IdiomRangeMap
import Derived.Laws.OwnMore
import Derived.Laws.Rows
import Derived.MapKept
import Derived.Maps.AppendAt
import Derived.OpenShut
import Derived.OrdersHeld
import Derived.OrdersIn
import Derived.ProofKit
import Derived.RangeFuncLeaves
import Derived.RangeFuncNested
import Derived.RangeFuncOwn
import Derived.SevenTiedAt
import Derived.SizedLaws
import Derived.Stop.Joined
import Derived.Test.YthfnedbpmdkdjaaDoorCards
import Derived.Test.YthfnedbpmdkdjaaDoorProg
import Derived.Test.YthfnedbpmdkdjaaDoorRows
import Derived.Test.YthfnedbpmdkdjaaDoorTie
import Derived.WalkKit
import Derived.WideKeyRuns
namespace Go.Proofs.YthfnedbpmdkdjaaDoor.D
open Go Go.RowKit Go.Proofs.YthfnedbpmdkdjaaDoor.Eng Go.Proofs.YthfnedbpmdkdjaaDoor.Cm
set_option linter.unusedVariables false
set_option linter.unusedSimpArgs false
set_option linter.unusedSectionVars false
theorem mem_cut {α : Type} {l : List α} {i j : Int} {x : α} (h : x ∈ cut l i j) : x ∈ l := by
  unfold cut at h
  exact List.mem_of_mem_take (List.mem_of_mem_drop h)
def endsL_c1 (b : DBook) (on : List Place) (k1 : Nat) : ((List Int) × (List Int)) → Bool := fun (v1_1, v1_2) => decide ((k1 : Int) < (b.loads.length : Int))
def endsL_b1 (b : DBook) (on : List Place) (k1 : Nat) : ((List Int) × (List Int)) → Bd ((List Int) × (List Int)) Span := fun (v1_1, v1_2) => .go (v1_1 ++ ([(b.loads.getD k1 zLoad).w.hi]), v1_2 ++ ([(b.loads.getD k1 zLoad).w.lo]))
def endsL_c2 (b : DBook) (on : List Place) (u1_0 : List Int) (u1_1 : List Int) (k2 : Nat) : (Int × Int) → Bool := fun (v2_1, v2_2) => decide ((k2 : Int) < (on.length : Int))
def endsL_b2 (b : DBook) (on : List Place) (u1_0 : List Int) (u1_1 : List Int) (k2 : Nat) : (Int × Int) → Bd (Int × Int) Span := fun (v2_1, v2_2) => .go ((addedF (⟨v2_1, v2_2⟩ : Span) (hullF (pointF (leanL (cut on (k2 : Int) (IntKind.i64.wrap ((k2 : Int) + 1))) u1_1)) (pointF (leanL (cut on (k2 : Int) (IntKind.i64.wrap ((k2 : Int) + 1))) u1_0)))).lo, (addedF (⟨v2_1, v2_2⟩ : Span) (hullF (pointF (leanL (cut on (k2 : Int) (IntKind.i64.wrap ((k2 : Int) + 1))) u1_1)) (pointF (leanL (cut on (k2 : Int) (IntKind.i64.wrap ((k2 : Int) + 1))) u1_0)))).hi)
def endsL (b : DBook) (on : List Place) : Span :=
  (match loopR (endsL_c1 b on) (endsL_b1 b on) b.loads.length 0 (([] : List Int), ([] : List Int)) with | .brk (u1_0, u1_1) => (match loopR (endsL_c2 b on u1_0 u1_1) (endsL_b2 b on u1_0 u1_1) on.length 0 ((pointF 0).lo, (pointF 0).hi) with | .brk (u2_0, u2_1) => (⟨u2_0, u2_1⟩ : Span) | .ret r => r) | .ret r => r)
theorem endsL_calls (g0 g1 : Value) (b : DBook) (on : List Place) (w : World) (r0 : Reads w g0 3 b.loads encLoad zLoad) (r1 : Reads w g1 2 on encPlace zPlace) (hb5 : b.loads.length ≤ 5) (hon : ∀ x ∈ on, 0 ≤ x.load ∧ x.load < b.loads.length) : Calls Tryd.prog 39 #[.agg #[g0, iv b.rule, iv b.most], g1] w fun e w' => e = .returned (.agg #[iv (endsL b on).lo, iv (endsL b on).hi]) ∧ Below w.heap.size w w' := by
  refine calls_of_WP (cx := cx0 w (vn [g0, g1]) 2) (n := vn [g0, g1]) (vs := [.g [.ref 0, .int .i64 b.rule, .int .i64 b.most], .s (.ref 1)]) (hp := [(0, .sl .ro 61 3 b.loads encLoad zLoad), (1, .sl .ro 65 2 on encPlace zPlace)]) (nx := 2) tt_ok Tryd.func39 rfl rfl rfl (by kernel_rfl) (HSat_args (vn_one (by simp [r0.one, r1.one])) (Nat.le_refl _) ⟨⟨⟨fun _ => rfl, by decide, r0⟩, (Nat.le_of_ble_eq_true rfl)⟩, ⟨⟨fun _ => rfl, by decide, r1⟩, (Nat.le_of_ble_eq_true rfl)⟩, trivial⟩) (vsOk (by kernel_rfl)) ?_
  have hl0 := Reads.len r0
  have hl1 := Reads.len r1
  refine WP_seq (WP_region (WPO_all tt_ok (by kernel_rfl) ?_))
  refine WP_seq (WP_region (LIT tt_ok (by kernel_rfl) ?_))
  refine LITSL 4 3 0 1 [] ([] : List Int) encI 0 (by kernel_rfl) rfl (fun _ => rfl) (fun n => rfl) ?_
  refine LIT tt_ok (by kernel_rfl) ?_
  refine LITSL 5 3 0 1 [] ([] : List Int) encI 0 (by kernel_rfl) rfl (fun _ => rfl) (fun n => rfl) ?_
  refine WPO_all tt_ok (by kernel_rfl) ?_
  refine WP_seq (WP_seq (WP_region (WPO_all tt_ok (by kernel_rfl) ?_)))
  refine WP_loopA (ρ := Span) (endsL_c1 b on) (endsL_b1 b on) b.loads.length (([] : List Int), ([] : List Int)) (fun k : Nat => (k : Int)) (fun (ci : Int) (zz : (List Int) × (List Int)) => ⟨64, [(7, [], .s (.int .i64 ci)), (6, [], .s (.ref 6)), (5, [], .s (.ref 7)), (4, [], .s (.p 3 0)), (2, [], .s (.p 2 0)), (1, [], .s (.ref 1))], [(7, .sl .own 3 1 zz.2 encI 0), (6, .sl .own 3 1 zz.1 encI 0), (3, .box 43 [.int .i64 0, .int .i64 0]), (2, .box 24 [.ref 0, .int .i64 b.rule, .int .i64 b.most]), (0, .sl .ro 61 3 b.loads encLoad zLoad), (1, .sl .ro 65 2 on encPlace zPlace)], 8, []⟩) (fun zz : (List Int) × (List Int) => ⟨64, [(6, [], .s (.ref 6)), (5, [], .s (.ref 7)), (4, [], .s (.p 3 0)), (1, [], .s (.ref 1))], [(7, .sl .own 3 1 zz.2 encI 0), (6, .sl .own 3 1 zz.1 encI 0), (3, .box 43 [.int .i64 0, .int .i64 0]), (2, .box 24 [.ref 0, .int .i64 b.rule, .int .i64 b.most]), (0, .sl .ro 61 3 b.loads encLoad zLoad), (1, .sl .ro 65 2 on encPlace zPlace)], 8, []⟩) (fun (k1 : Nat) (zz : (List Int) × (List Int)) => zz.1.length ≤ k1 ∧ zz.2.length ≤ k1) ⟨by simp, by simp⟩ ⟨0, rfl, Le_ren [(7, 4), (6, 5)] ⟨by kernel_rfl, by kernel_rfl, by kernel_rfl, by kernel_rfl, by kernel_rfl, by kernel_rfl, trivial⟩ ⟨by kernel_rfl, rfl, by kernel_rfl, by kernel_rfl, rfl, by kernel_rfl, by kernel_rfl, rfl, by kernel_rfl, by kernel_rfl, rfl, by kernel_rfl, by kernel_rfl, rfl, by kernel_rfl, by kernel_rfl, rfl, by kernel_rfl, trivial⟩ (by kernel_rfl) (by kernel_rfl) (rnm_id (m := 2) (by kernel_rfl)) (by show 2 ≤ 8; decide) (by kernel_rfl) (by kernel_rfl)⟩ ?_ ?_
  · intro k1 zz hn1 hp1 hi1 Q1 hq1 ho1
    obtain ⟨v1_1, v1_2⟩ := zz
    replace hp1 : v1_1.length ≤ k1 ∧ v1_2.length ≤ k1 := hp1
    refine WP_seq (WP_seq (WP_region (WPO_all tt_ok (by kernel_rfl) ?_)))
    refine WP_cond (decide ((k1 : Int) < (b.loads.length : Int))) (by kernel_rfl) (fun hc1 => ?_) (fun hc1 => ?_)
    rotate_left
    · refine WP_exit ?_
      show Q1 (.exit 0) _
      exact LA_exit hq1 (v1_1, v1_2) (loopR_end hi1 hc1) ⟨k1, hn1, hp1⟩ (Le_sel (ts := [6, 5, 4, 1]) (ids := [7, 6, 3, 2, 0, 1]) (nx := 8) (by kernel_rfl))
    have hc1' := of_decide_eq_true hc1
    have hk1 : k1 < b.loads.length := by omega
    refine WP_skip ?_
    refine WP_seq (WP_block ?_)
    refine WP_toX (σ := Unit) (fun _ => ⟨64, [(6, [], .s (.ref 11)), (5, [], .s (.ref 9)), (7, [], .s (.int .i64 (k1 : Int))), (4, [], .s (.p 3 0)), (2, [], .s (.p 2 0)), (1, [], .s (.ref 1))], [(11, .sl .own 3 1 (v1_1 ++ ([(b.loads.getD k1 zLoad).w.hi])) encI 0), (9, .sl .own 3 1 (v1_2 ++ ([(b.loads.getD k1 zLoad).w.lo])) encI 0), (3, .box 43 [.int .i64 0, .int .i64 0]), (2, .box 24 [.ref 0, .int .i64 b.rule, .int .i64 b.most]), (0, .sl .ro 61 3 b.loads encLoad zLoad), (1, .sl .ro 65 2 on encPlace zPlace)], 12, []⟩) ?_ ?_
    · refine WP_drawH [6, 7] (by kernel_rfl) (by kernel_rfl) ?_
      refine H_run tt_ok [0, 1, 2, 3] (f' := 18) (by kernel_rfl) (by kernel_rfl) (by kernel_rfl) ?_
      refine H_IX tt_ok 4 (k1 : Int) b.loads.length [] (by kernel_rfl) (fun hG => ⟨by omega, by omega⟩) (by kernel_rfl) (by kernel_rfl) ?_
      refine H_run tt_ok [10, 11, 12, 13] (f' := 13) (by kernel_rfl) (by kernel_rfl) (by kernel_rfl) ?_
      refine H_IX tt_ok 14 (k1 : Int) b.loads.length [] (by kernel_rfl) (fun hG => ⟨by omega, by omega⟩) (by kernel_rfl) (by kernel_rfl) ?_
      refine H_two 5 15 (by kernel_rfl) (by kernel_rfl) (by kernel_rfl) (fun hfz cx' hx1 hx2 => ?_) (fun hfz cx' hx1 hx2 => ?_)
      · refine WPO_all tt_ok (by kernel_rfl) ?_
        refine ⟨rfl, (hfz.fnds [3, 2, 0, 1] (by kernel_rfl) ⟨by kernel_rfl, by kernel_rfl, by kernel_rfl, by kernel_rfl, trivial⟩ (by kernel_rfl)), ?_⟩
        refine H_two 6 15 (by kernel_rfl) (by kernel_rfl) (by kernel_rfl) (fun hfz cx' hx1 hx2 => ?_) (fun hfz cx' hx1 hx2 => ?_)
        · refine WPO_all tt_ok (by kernel_rfl) ?_
          refine ⟨rfl, (hfz.fnds [3, 2, 0, 1] (by kernel_rfl) ⟨by kernel_rfl, by kernel_rfl, by kernel_rfl, by kernel_rfl, trivial⟩ (by kernel_rfl)), ?_⟩
          refine H_run tt_ok [7] (f' := 9) (by kernel_rfl) (by kernel_rfl) (by kernel_rfl) ?_
          refine H_two 8 15 (by kernel_rfl) (by kernel_rfl) (by kernel_rfl) (fun hfz cx' hx1 hx2 => ?_) (fun hfz cx' hx1 hx2 => ?_)
          · refine LIT tt_ok (by kernel_rfl) ?_
            refine LITSL 8 3 1 1 [.int .i64 (b.loads.getD k1 zLoad).w.lo] [(b.loads.getD k1 zLoad).w.lo] encI 0 (by kernel_rfl) rfl (fun _ => rfl) (fun n => rfl) ?_
            refine WPO_end (by kernel_rfl) ⟨rfl, (hfz.fnds [3, 2, 0, 1] (by kernel_rfl) ⟨by kernel_rfl, by kernel_rfl, by kernel_rfl, by kernel_rfl, trivial⟩ (by kernel_rfl)), ?_⟩
            refine H_two 9 15 (by kernel_rfl) (by kernel_rfl) (by kernel_rfl) (fun hfz cx' hx1 hx2 => ?_) (fun hfz cx' hx1 hx2 => ?_)
            · refine APP tt_ok (.s (.ref 7)) (.s (.ref 8)) 33 3 (some 29) 1 v1_2 ([(b.loads.getD k1 zLoad).w.lo]) encI 0 (by kernel_rfl) (by kernel_rfl) (by kernel_rfl) (by kernel_rfl) (.inr (.inl ⟨7, rfl, (by kernel_rfl)⟩)) (.inr ⟨8, .own, rfl, (by kernel_rfl), (by simp only [List.length_cons, List.length_nil]; omega)⟩) (by simp) (fun y => rfl) (fun y => List.all_eq_true.1 rfl) (fun i hi => (by have hby : (tyL tt 3).map (·.bytes) = some 8 := (by kernel_rfl); rw [hi] at hby; simp only [Option.map_some, Option.some.injEq] at hby; rw [hby]; simp only [List.length_append, List.length_cons, List.length_nil]; omega)) ?_
              refine WPO_end (by kernel_rfl) ⟨rfl, (hfz.fnds [3, 2, 0, 1] (by kernel_rfl) ⟨by kernel_rfl, by kernel_rfl, by kernel_rfl, by kernel_rfl, trivial⟩ (by kernel_rfl)), ?_⟩
              refine H_step 15 (by kernel_rfl) (by kernel_rfl) (fun hfz cx' hx1 hx2 => ?_)
              refine WPO_all tt_ok (by kernel_rfl) ?_
              refine ⟨rfl, (hfz.fnds [3, 2, 0, 1] (by kernel_rfl) ⟨by kernel_rfl, by kernel_rfl, by kernel_rfl, by kernel_rfl, trivial⟩ (by kernel_rfl)), ?_⟩
              refine H_step 16 (by kernel_rfl) (by kernel_rfl) (fun hfz cx' hx1 hx2 => ?_)
              refine WPO_all tt_ok (by kernel_rfl) ?_
              refine ⟨rfl, (hfz.fnds [3, 2, 0, 1] (by kernel_rfl) ⟨by kernel_rfl, by kernel_rfl, by kernel_rfl, by kernel_rfl, trivial⟩ (by kernel_rfl)), ?_⟩
              refine H_run tt_ok [17] (f' := 4) (by kernel_rfl) (by kernel_rfl) (by kernel_rfl) ?_
              refine H_step 18 (by kernel_rfl) (by kernel_rfl) (fun hfz cx' hx1 hx2 => ?_)
              refine LIT tt_ok (by kernel_rfl) ?_
              refine LITSL 10 3 1 1 [.int .i64 (b.loads.getD k1 zLoad).w.hi] [(b.loads.getD k1 zLoad).w.hi] encI 0 (by kernel_rfl) rfl (fun _ => rfl) (fun n => rfl) ?_
              refine WPO_end (by kernel_rfl) ⟨rfl, (hfz.fnds [3, 2, 0, 1] (by kernel_rfl) ⟨by kernel_rfl, by kernel_rfl, by kernel_rfl, by kernel_rfl, trivial⟩ (by kernel_rfl)), ?_⟩
              refine H_step 19 (by kernel_rfl) (by kernel_rfl) (fun hfz cx' hx1 hx2 => ?_)
              refine APP tt_ok (.s (.ref 6)) (.s (.ref 10)) 33 3 (some 39) 1 v1_1 ([(b.loads.getD k1 zLoad).w.hi]) encI 0 (by kernel_rfl) (by kernel_rfl) (by kernel_rfl) (by kernel_rfl) (.inr (.inl ⟨6, rfl, (by kernel_rfl)⟩)) (.inr ⟨10, .own, rfl, (by kernel_rfl), (by simp only [List.length_cons, List.length_nil]; omega)⟩) (by simp) (fun y => rfl) (fun y => List.all_eq_true.1 rfl) (fun i hi => (by have hby : (tyL tt 3).map (·.bytes) = some 8 := (by kernel_rfl); rw [hi] at hby; simp only [Option.map_some, Option.some.injEq] at hby; rw [hby]; simp only [List.length_append, List.length_cons, List.length_nil]; omega)) ?_
              refine WPO_end (by kernel_rfl) ⟨rfl, (hfz.fnds [3, 2, 0, 1] (by kernel_rfl) ⟨by kernel_rfl, by kernel_rfl, by kernel_rfl, by kernel_rfl, trivial⟩ (by kernel_rfl)), ?_⟩
              refine H_run tt_ok [20, 21] (f' := 0) (by kernel_rfl) (by kernel_rfl) (by kernel_rfl) ?_
              refine H_done (by kernel_rfl) ?_
              exact ⟨(), Le_sel (ts := [6, 5, 7, 4, 2, 1]) (ids := [11, 9, 3, 2, 0, 1]) (nx := 12) (by kernel_rfl)⟩
            · refine WPO_all tt_ok (by kernel_rfl) ?_
              refine ⟨rfl, (hfz.fnds [3, 2, 0, 1] (by kernel_rfl) ⟨by kernel_rfl, by kernel_rfl, by kernel_rfl, by kernel_rfl, trivial⟩ (by kernel_rfl)), ?_⟩
              refine H_two 9 16 (by kernel_rfl) (by kernel_rfl) (by kernel_rfl) (fun hfz cx' hx1 hx2 => ?_) (fun hfz cx' hx1 hx2 => ?_)
              · refine APP tt_ok (.s (.ref 7)) (.s (.ref 8)) 33 3 (some 29) 1 v1_2 ([(b.loads.getD k1 zLoad).w.lo]) encI 0 (by kernel_rfl) (by kernel_rfl) (by kernel_rfl) (by kernel_rfl) (.inr (.inl ⟨7, rfl, (by kernel_rfl)⟩)) (.inr ⟨8, .own, rfl, (by kernel_rfl), (by simp only [List.length_cons, List.length_nil]; omega)⟩) (by simp) (fun y => rfl) (fun y => List.all_eq_true.1 rfl) (fun i hi => (by have hby : (tyL tt 3).map (·.bytes) = some 8 := (by kernel_rfl); rw [hi] at hby; simp only [Option.map_some, Option.some.injEq] at hby; rw [hby]; simp only [List.length_append, List.length_cons, List.length_nil]; omega)) ?_
                refine WPO_end (by kernel_rfl) ⟨rfl, (hfz.fnds [3, 2, 0, 1] (by kernel_rfl) ⟨by kernel_rfl, by kernel_rfl, by kernel_rfl, by kernel_rfl, trivial⟩ (by kernel_rfl)), ?_⟩
                refine H_step 16 (by kernel_rfl) (by kernel_rfl) (fun hfz cx' hx1 hx2 => ?_)
                refine WPO_all tt_ok (by kernel_rfl) ?_
                refine ⟨rfl, (hfz.fnds [3, 2, 0, 1] (by kernel_rfl) ⟨by kernel_rfl, by kernel_rfl, by kernel_rfl, by kernel_rfl, trivial⟩ (by kernel_rfl)), ?_⟩
                refine H_run tt_ok [17] (f' := 4) (by kernel_rfl) (by kernel_rfl) (by kernel_rfl) ?_
                refine H_step 18 (by kernel_rfl) (by kernel_rfl) (fun hfz cx' hx1 hx2 => ?_)
                refine LIT tt_ok (by kernel_rfl) ?_
                refine LITSL 10 3 1 1 [.int .i64 (b.loads.getD k1 zLoad).w.hi] [(b.loads.getD k1 zLoad).w.hi] encI 0 (by kernel_rfl) rfl (fun _ => rfl) (fun n => rfl) ?_
                refine WPO_end (by kernel_rfl) ⟨rfl, (hfz.fnds [3, 2, 0, 1] (by kernel_rfl) ⟨by kernel_rfl, by kernel_rfl, by kernel_rfl, by kernel_rfl, trivial⟩ (by kernel_rfl)), ?_⟩
                refine H_step 19 (by kernel_rfl) (by kernel_rfl) (fun hfz cx' hx1 hx2 => ?_)
                refine APP tt_ok (.s (.ref 6)) (.s (.ref 10)) 33 3 (some 39) 1 v1_1 ([(b.loads.getD k1 zLoad).w.hi]) encI 0 (by kernel_rfl) (by kernel_rfl) (by kernel_rfl) (by kernel_rfl) (.inr (.inl ⟨6, rfl, (by kernel_rfl)⟩)) (.inr ⟨10, .own, rfl, (by kernel_rfl), (by simp only [List.length_cons, List.length_nil]; omega)⟩) (by simp) (fun y => rfl) (fun y => List.all_eq_true.1 rfl) (fun i hi => (by have hby : (tyL tt 3).map (·.bytes) = some 8 := (by kernel_rfl); rw [hi] at hby; simp only [Option.map_some, Option.some.injEq] at hby; rw [hby]; simp only [List.length_append, List.length_cons, List.length_nil]; omega)) ?_
                refine WPO_end (by kernel_rfl) ⟨rfl, (hfz.fnds [3, 2, 0, 1] (by kernel_rfl) ⟨by kernel_rfl, by kernel_rfl, by kernel_rfl, by kernel_rfl, trivial⟩ (by kernel_rfl)), ?_⟩
                refine H_run tt_ok [20, 21] (f' := 0) (by kernel_rfl) (by kernel_rfl) (by kernel_rfl) ?_
                refine H_done (by kernel_rfl) ?_
                exact ⟨(), Le_sel (ts := [6, 5, 7, 4, 2, 1]) (ids := [11, 9, 3, 2, 0, 1]) (nx := 12) (by kernel_rfl)⟩
              · refine WPO_all tt_ok (by kernel_rfl) ?_
                refine ⟨rfl, (hfz.fnds [3, 2, 0, 1] (by kernel_rfl) ⟨by kernel_rfl, by kernel_rfl, by kernel_rfl, by kernel_rfl, trivial⟩ (by kernel_rfl)), ?_⟩
                refine H_run tt_ok [17] (f' := 5) (by kernel_rfl) (by kernel_rfl) (by kernel_rfl) ?_
                refine H_two 9 18 (by kernel_rfl) (by kernel_rfl) (by kernel_rfl) (fun hfz cx' hx1 hx2 => ?_) (fun hfz cx' hx1 hx2 => ?_)
                · refine APP tt_ok (.s (.ref 7)) (.s (.ref 8)) 33 3 (some 29) 1 v1_2 ([(b.loads.getD k1 zLoad).w.lo]) encI 0 (by kernel_rfl) (by kernel_rfl) (by kernel_rfl) (by kernel_rfl) (.inr (.inl ⟨7, rfl, (by kernel_rfl)⟩)) (.inr ⟨8, .own, rfl, (by kernel_rfl), (by simp only [List.length_cons, List.length_nil]; omega)⟩) (by simp) (fun y => rfl) (fun y => List.all_eq_true.1 rfl) (fun i hi => (by have hby : (tyL tt 3).map (·.bytes) = some 8 := (by kernel_rfl); rw [hi] at hby; simp only [Option.map_some, Option.some.injEq] at hby; rw [hby]; simp only [List.length_append, List.length_cons, List.length_nil]; omega)) ?_
                  refine WPO_end (by kernel_rfl) ⟨rfl, (hfz.fnds [3, 2, 0, 1] (by kernel_rfl) ⟨by kernel_rfl, by kernel_rfl, by kernel_rfl, by kernel_rfl, trivial⟩ (by kernel_rfl)), ?_⟩
                  refine H_step 18 (by kernel_rfl) (by kernel_rfl) (fun hfz cx' hx1 hx2 => ?_)
                  refine LIT tt_ok (by kernel_rfl) ?_
                  refine LITSL 10 3 1 1 [.int .i64 (b.loads.getD k1 zLoad).w.hi] [(b.loads.getD k1 zLoad).w.hi] encI 0 (by kernel_rfl) rfl (fun _ => rfl) (fun n => rfl) ?_
                  refine WPO_end (by kernel_rfl) ⟨rfl, (hfz.fnds [3, 2, 0, 1] (by kernel_rfl) ⟨by kernel_rfl, by kernel_rfl, by kernel_rfl, by kernel_rfl, trivial⟩ (by kernel_rfl)), ?_⟩
                  refine H_step 19 (by kernel_rfl) (by kernel_rfl) (fun hfz cx' hx1 hx2 => ?_)
                  refine APP tt_ok (.s (.ref 6)) (.s (.ref 10)) 33 3 (some 39) 1 v1_1 ([(b.loads.getD k1 zLoad).w.hi]) encI 0 (by kernel_rfl) (by kernel_rfl) (by kernel_rfl) (by kernel_rfl) (.inr (.inl ⟨6, rfl, (by kernel_rfl)⟩)) (.inr ⟨10, .own, rfl, (by kernel_rfl), (by simp only [List.length_cons, List.length_nil]; omega)⟩) (by simp) (fun y => rfl) (fun y => List.all_eq_true.1 rfl) (fun i hi => (by have hby : (tyL tt 3).map (·.bytes) = some 8 := (by kernel_rfl); rw [hi] at hby; simp only [Option.map_some, Option.some.injEq] at hby; rw [hby]; simp only [List.length_append, List.length_cons, List.length_nil]; omega)) ?_
                  refine WPO_end (by kernel_rfl) ⟨rfl, (hfz.fnds [3, 2, 0, 1] (by kernel_rfl) ⟨by kernel_rfl, by kernel_rfl, by kernel_rfl, by kernel_rfl, trivial⟩ (by kernel_rfl)), ?_⟩
                  refine H_run tt_ok [20, 21] (f' := 0) (by kernel_rfl) (by kernel_rfl) (by kernel_rfl) ?_
                  refine H_done (by kernel_rfl) ?_
                  exact ⟨(), Le_sel (ts := [6, 5, 7, 4, 2, 1]) (ids := [11, 9, 3, 2, 0, 1]) (nx := 12) (by kernel_rfl)⟩
                · refine LIT tt_ok (by kernel_rfl) ?_
                  refine LITSL 9 3 1 1 [.int .i64 (b.loads.getD k1 zLoad).w.hi] [(b.loads.getD k1 zLoad).w.hi] encI 0 (by kernel_rfl) rfl (fun _ => rfl) (fun n => rfl) ?_
                  refine WPO_end (by kernel_rfl) ⟨rfl, (hfz.fnds [3, 2, 0, 1] (by kernel_rfl) ⟨by kernel_rfl, by kernel_rfl, by kernel_rfl, by kernel_rfl, trivial⟩ (by kernel_rfl)), ?_⟩
                  refine H_step 9 (by kernel_rfl) (by kernel_rfl) (fun hfz cx' hx1 hx2 => ?_)
                  refine APP tt_ok (.s (.ref 7)) (.s (.ref 8)) 33 3 (some 29) 1 v1_2 ([(b.loads.getD k1 zLoad).w.lo]) encI 0 (by kernel_rfl) (by kernel_rfl) (by kernel_rfl) (by kernel_rfl) (.inr (.inl ⟨7, rfl, (by kernel_rfl)⟩)) (.inr ⟨8, .own, rfl, (by kernel_rfl), (by simp only [List.length_cons, List.length_nil]; omega)⟩) (by simp) (fun y => rfl) (fun y => List.all_eq_true.1 rfl) (fun i hi => (by have hby : (tyL tt 3).map (·.bytes) = some 8 := (by kernel_rfl); rw [hi] at hby; simp only [Option.map_some, Option.some.injEq] at hby; rw [hby]; simp only [List.length_append, List.length_cons, List.length_nil]; omega)) ?_
                  refine WPO_end (by kernel_rfl) ⟨rfl, (hfz.fnds [3, 2, 0, 1] (by kernel_rfl) ⟨by kernel_rfl, by kernel_rfl, by kernel_rfl, by kernel_rfl, trivial⟩ (by kernel_rfl)), ?_⟩
                  refine H_step 19 (by kernel_rfl) (by kernel_rfl) (fun hfz cx' hx1 hx2 => ?_)
                  refine APP tt_ok (.s (.ref 6)) (.s (.ref 9)) 33 3 (some 39) 1 v1_1 ([(b.loads.getD k1 zLoad).w.hi]) encI 0 (by kernel_rfl) (by kernel_rfl) (by kernel_rfl) (by kernel_rfl) (.inr (.inl ⟨6, rfl, (by kernel_rfl)⟩)) (.inr ⟨9, .own, rfl, (by kernel_rfl), (by simp only [List.length_cons, List.length_nil]; omega)⟩) (by simp) (fun y => rfl) (fun y => List.all_eq_true.1 rfl) (fun i hi => (by have hby : (tyL tt 3).map (·.bytes) = some 8 := (by kernel_rfl); rw [hi] at hby; simp only [Option.map_some, Option.some.injEq] at hby; rw [hby]; simp only [List.length_append, List.length_cons, List.length_nil]; omega)) ?_
                  refine WPO_end (by kernel_rfl) ⟨rfl, (hfz.fnds [3, 2, 0, 1] (by kernel_rfl) ⟨by kernel_rfl, by kernel_rfl, by kernel_rfl, by kernel_rfl, trivial⟩ (by kernel_rfl)), ?_⟩
                  refine H_run tt_ok [20, 21] (f' := 0) (by kernel_rfl) (by kernel_rfl) (by kernel_rfl) ?_
                  refine H_done (by kernel_rfl) ?_
                  exact ⟨(), Le_ren [(9, 10)] ⟨by kernel_rfl, by kernel_rfl, by kernel_rfl, by kernel_rfl, by kernel_rfl, by kernel_rfl, trivial⟩ ⟨by kernel_rfl, rfl, by kernel_rfl, by kernel_rfl, rfl, by kernel_rfl, by kernel_rfl, rfl, by kernel_rfl, by kernel_rfl, rfl, by kernel_rfl, by kernel_rfl, rfl, by kernel_rfl, by kernel_rfl, rfl, by kernel_rfl, trivial⟩ (by kernel_rfl) (by kernel_rfl) (rnm_id (m := 2) (by kernel_rfl)) (by show 2 ≤ 12; decide) (by kernel_rfl) (by kernel_rfl)⟩
          · refine WPO_all tt_ok (by kernel_rfl) ?_
            refine ⟨rfl, (hfz.fnds [3, 2, 0, 1] (by kernel_rfl) ⟨by kernel_rfl, by kernel_rfl, by kernel_rfl, by kernel_rfl, trivial⟩ (by kernel_rfl)), ?_⟩
            refine H_two 8 16 (by kernel_rfl) (by kernel_rfl) (by kernel_rfl) (fun hfz cx' hx1 hx2 => ?_) (fun hfz cx' hx1 hx2 => ?_)
            · refine LIT tt_ok (by kernel_rfl) ?_
              refine LITSL 8 3 1 1 [.int .i64 (b.loads.getD k1 zLoad).w.lo] [(b.loads.getD k1 zLoad).w.lo] encI 0 (by kernel_rfl) rfl (fun _ => rfl) (fun n => rfl) ?_
              refine WPO_end (by kernel_rfl) ⟨rfl, (hfz.fnds [3, 2, 0, 1] (by kernel_rfl) ⟨by kernel_rfl, by kernel_rfl, by kernel_rfl, by kernel_rfl, trivial⟩ (by kernel_rfl)), ?_⟩
              refine H_two 9 16 (by kernel_rfl) (by kernel_rfl) (by kernel_rfl) (fun hfz cx' hx1 hx2 => ?_) (fun hfz cx' hx1 hx2 => ?_)
              · refine APP tt_ok (.s (.ref 7)) (.s (.ref 8)) 33 3 (some 29) 1 v1_2 ([(b.loads.getD k1 zLoad).w.lo]) encI 0 (by kernel_rfl) (by kernel_rfl) (by kernel_rfl) (by kernel_rfl) (.inr (.inl ⟨7, rfl, (by kernel_rfl)⟩)) (.inr ⟨8, .own, rfl, (by kernel_rfl), (by simp only [List.length_cons, List.length_nil]; omega)⟩) (by simp) (fun y => rfl) (fun y => List.all_eq_true.1 rfl) (fun i hi => (by have hby : (tyL tt 3).map (·.bytes) = some 8 := (by kernel_rfl); rw [hi] at hby; simp only [Option.map_some, Option.some.injEq] at hby; rw [hby]; simp only [List.length_append, List.length_cons, List.length_nil]; omega)) ?_
                refine WPO_end (by kernel_rfl) ⟨rfl, (hfz.fnds [3, 2, 0, 1] (by kernel_rfl) ⟨by kernel_rfl, by kernel_rfl, by kernel_rfl, by kernel_rfl, trivial⟩ (by kernel_rfl)), ?_⟩
                refine H_step 16 (by kernel_rfl) (by kernel_rfl) (fun hfz cx' hx1 hx2 => ?_)
                refine WPO_all tt_ok (by kernel_rfl) ?_
                refine ⟨rfl, (hfz.fnds [3, 2, 0, 1] (by kernel_rfl) ⟨by kernel_rfl, by kernel_rfl, by kernel_rfl, by kernel_rfl, trivial⟩ (by kernel_rfl)), ?_⟩
                refine H_run tt_ok [17] (f' := 4) (by kernel_rfl) (by kernel_rfl) (by kernel_rfl) ?_
                refine H_step 18 (by kernel_rfl) (by kernel_rfl) (fun hfz cx' hx1 hx2 => ?_)
                refine LIT tt_ok (by kernel_rfl) ?_
                refine LITSL 10 3 1 1 [.int .i64 (b.loads.getD k1 zLoad).w.hi] [(b.loads.getD k1 zLoad).w.hi] encI 0 (by kernel_rfl) rfl (fun _ => rfl) (fun n => rfl) ?_
                refine WPO_end (by kernel_rfl) ⟨rfl, (hfz.fnds [3, 2, 0, 1] (by kernel_rfl) ⟨by kernel_rfl, by kernel_rfl, by kernel_rfl, by kernel_rfl, trivial⟩ (by kernel_rfl)), ?_⟩
                refine H_step 19 (by kernel_rfl) (by kernel_rfl) (fun hfz cx' hx1 hx2 => ?_)
                refine APP tt_ok (.s (.ref 6)) (.s (.ref 10)) 33 3 (some 39) 1 v1_1 ([(b.loads.getD k1 zLoad).w.hi]) encI 0 (by kernel_rfl) (by kernel_rfl) (by kernel_rfl) (by kernel_rfl) (.inr (.inl ⟨6, rfl, (by kernel_rfl)⟩)) (.inr ⟨10, .own, rfl, (by kernel_rfl), (by simp only [List.length_cons, List.length_nil]; omega)⟩) (by simp) (fun y => rfl) (fun y => List.all_eq_true.1 rfl) (fun i hi => (by have hby : (tyL tt 3).map (·.bytes) = some 8 := (by kernel_rfl); rw [hi] at hby; simp only [Option.map_some, Option.some.injEq] at hby; rw [hby]; simp only [List.length_append, List.length_cons, List.length_nil]; omega)) ?_
                refine WPO_end (by kernel_rfl) ⟨rfl, (hfz.fnds [3, 2, 0, 1] (by kernel_rfl) ⟨by kernel_rfl, by kernel_rfl, by kernel_rfl, by kernel_rfl, trivial⟩ (by kernel_rfl)), ?_⟩
                refine H_run tt_ok [20, 21] (f' := 0) (by kernel_rfl) (by kernel_rfl) (by kernel_rfl) ?_
                refine H_done (by kernel_rfl) ?_
                exact ⟨(), Le_sel (ts := [6, 5, 7, 4, 2, 1]) (ids := [11, 9, 3, 2, 0, 1]) (nx := 12) (by kernel_rfl)⟩
              · refine WPO_all tt_ok (by kernel_rfl) ?_
                refine ⟨rfl, (hfz.fnds [3, 2, 0, 1] (by kernel_rfl) ⟨by kernel_rfl, by kernel_rfl, by kernel_rfl, by kernel_rfl, trivial⟩ (by kernel_rfl)), ?_⟩
                refine H_run tt_ok [17] (f' := 5) (by kernel_rfl) (by kernel_rfl) (by kernel_rfl) ?_
                refine H_two 9 18 (by kernel_rfl) (by kernel_rfl) (by kernel_rfl) (fun hfz cx' hx1 hx2 => ?_) (fun hfz cx' hx1 hx2 => ?_)
                · refine APP tt_ok (.s (.ref 7)) (.s (.ref 8)) 33 3 (some 29) 1 v1_2 ([(b.loads.getD k1 zLoad).w.lo]) encI 0 (by kernel_rfl) (by kernel_rfl) (by kernel_rfl) (by kernel_rfl) (.inr (.inl ⟨7, rfl, (by kernel_rfl)⟩)) (.inr ⟨8, .own, rfl, (by kernel_rfl), (by simp only [List.length_cons, List.length_nil]; omega)⟩) (by simp) (fun y => rfl) (fun y => List.all_eq_true.1 rfl) (fun i hi => (by have hby : (tyL tt 3).map (·.bytes) = some 8 := (by kernel_rfl); rw [hi] at hby; simp only [Option.map_some, Option.some.injEq] at hby; rw [hby]; simp only [List.length_append, List.length_cons, List.length_nil]; omega)) ?_
                  refine WPO_end (by kernel_rfl) ⟨rfl, (hfz.fnds [3, 2, 0, 1] (by kernel_rfl) ⟨by kernel_rfl, by kernel_rfl, by kernel_rfl, by kernel_rfl, trivial⟩ (by kernel_rfl)), ?_⟩
                  refine H_step 18 (by kernel_rfl) (by kernel_rfl) (fun hfz cx' hx1 hx2 => ?_)
                  refine LIT tt_ok (by kernel_rfl) ?_
                  refine LITSL 10 3 1 1 [.int .i64 (b.loads.getD k1 zLoad).w.hi] [(b.loads.getD k1 zLoad).w.hi] encI 0 (by kernel_rfl) rfl (fun _ => rfl) (fun n => rfl) ?_
                  refine WPO_end (by kernel_rfl) ⟨rfl, (hfz.fnds [3, 2, 0, 1] (by kernel_rfl) ⟨by kernel_rfl, by kernel_rfl, by kernel_rfl, by kernel_rfl, trivial⟩ (by kernel_rfl)), ?_⟩
                  refine H_step 19 (by kernel_rfl) (by kernel_rfl) (fun hfz cx' hx1 hx2 => ?_)
                  refine APP tt_ok (.s (.ref 6)) (.s (.ref 10)) 33 3 (some 39) 1 v1_1 ([(b.loads.getD k1 zLoad).w.hi]) encI 0 (by kernel_rfl) (by kernel_rfl) (by kernel_rfl) (by kernel_rfl) (.inr (.inl ⟨6, rfl, (by kernel_rfl)⟩)) (.inr ⟨10, .own, rfl, (by kernel_rfl), (by simp only [List.length_cons, List.length_nil]; omega)⟩) (by simp) (fun y => rfl) (fun y => List.all_eq_true.1 rfl) (fun i hi => (by have hby : (tyL tt 3).map (·.bytes) = some 8 := (by kernel_rfl); rw [hi] at hby; simp only [Option.map_some, Option.some.injEq] at hby; rw [hby]; simp only [List.length_append, List.length_cons, List.length_nil]; omega)) ?_
                  refine WPO_end (by kernel_rfl) ⟨rfl, (hfz.fnds [3, 2, 0, 1] (by kernel_rfl) ⟨by kernel_rfl, by kernel_rfl, by kernel_rfl, by kernel_rfl, trivial⟩ (by kernel_rfl)), ?_⟩
                  refine H_run tt_ok [20, 21] (f' := 0) (by kernel_rfl) (by kernel_rfl) (by kernel_rfl) ?_
                  refine H_done (by kernel_rfl) ?_
                  exact ⟨(), Le_sel (ts := [6, 5, 7, 4, 2, 1]) (ids := [11, 9, 3, 2, 0, 1]) (nx := 12) (by kernel_rfl)⟩
                · refine LIT tt_ok (by kernel_rfl) ?_
                  refine LITSL 9 3 1 1 [.int .i64 (b.loads.getD k1 zLoad).w.hi] [(b.loads.getD k1 zLoad).w.hi] encI 0 (by kernel_rfl) rfl (fun _ => rfl) (fun n => rfl) ?_
                  refine WPO_end (by kernel_rfl) ⟨rfl, (hfz.fnds [3, 2, 0, 1] (by kernel_rfl) ⟨by kernel_rfl, by kernel_rfl, by kernel_rfl, by kernel_rfl, trivial⟩ (by kernel_rfl)), ?_⟩
                  refine H_step 9 (by kernel_rfl) (by kernel_rfl) (fun hfz cx' hx1 hx2 => ?_)
                  refine APP tt_ok (.s (.ref 7)) (.s (.ref 8)) 33 3 (some 29) 1 v1_2 ([(b.loads.getD k1 zLoad).w.lo]) encI 0 (by kernel_rfl) (by kernel_rfl) (by kernel_rfl) (by kernel_rfl) (.inr (.inl ⟨7, rfl, (by kernel_rfl)⟩)) (.inr ⟨8, .own, rfl, (by kernel_rfl), (by simp only [List.length_cons, List.length_nil]; omega)⟩) (by simp) (fun y => rfl) (fun y => List.all_eq_true.1 rfl) (fun i hi => (by have hby : (tyL tt 3).map (·.bytes) = some 8 := (by kernel_rfl); rw [hi] at hby; simp only [Option.map_some, Option.some.injEq] at hby; rw [hby]; simp only [List.length_append, List.length_cons, List.length_nil]; omega)) ?_
                  refine WPO_end (by kernel_rfl) ⟨rfl, (hfz.fnds [3, 2, 0, 1] (by kernel_rfl) ⟨by kernel_rfl, by kernel_rfl, by kernel_rfl, by kernel_rfl, trivial⟩ (by kernel_rfl)), ?_⟩
                  refine H_step 19 (by kernel_rfl) (by kernel_rfl) (fun hfz cx' hx1 hx2 => ?_)
                  refine APP tt_ok (.s (.ref 6)) (.s (.ref 9)) 33 3 (some 39) 1 v1_1 ([(b.loads.getD k1 zLoad).w.hi]) encI 0 (by kernel_rfl) (by kernel_rfl) (by kernel_rfl) (by kernel_rfl) (.inr (.inl ⟨6, rfl, (by kernel_rfl)⟩)) (.inr ⟨9, .own, rfl, (by kernel_rfl), (by simp only [List.length_cons, List.length_nil]; omega)⟩) (by simp) (fun y => rfl) (fun y => List.all_eq_true.1 rfl) (fun i hi => (by have hby : (tyL tt 3).map (·.bytes) = some 8 := (by kernel_rfl); rw [hi] at hby; simp only [Option.map_some, Option.some.injEq] at hby; rw [hby]; simp only [List.length_append, List.length_cons, List.length_nil]; omega)) ?_
                  refine WPO_end (by kernel_rfl) ⟨rfl, (hfz.fnds [3, 2, 0, 1] (by kernel_rfl) ⟨by kernel_rfl, by kernel_rfl, by kernel_rfl, by kernel_rfl, trivial⟩ (by kernel_rfl)), ?_⟩
                  refine H_run tt_ok [20, 21] (f' := 0) (by kernel_rfl) (by kernel_rfl) (by kernel_rfl) ?_
                  refine H_done (by kernel_rfl) ?_
                  exact ⟨(), Le_ren [(9, 10)] ⟨by kernel_rfl, by kernel_rfl, by kernel_rfl, by kernel_rfl, by kernel_rfl, by kernel_rfl, trivial⟩ ⟨by kernel_rfl, rfl, by kernel_rfl, by kernel_rfl, rfl, by kernel_rfl, by kernel_rfl, rfl, by kernel_rfl, by kernel_rfl, rfl, by kernel_rfl, by kernel_rfl, rfl, by kernel_rfl, by kernel_rfl, rfl, by kernel_rfl, trivial⟩ (by kernel_rfl) (by kernel_rfl) (rnm_id (m := 2) (by kernel_rfl)) (by show 2 ≤ 12; decide) (by kernel_rfl) (by kernel_rfl)⟩
            · refine WPO_all tt_ok (by kernel_rfl) ?_
              refine ⟨rfl, (hfz.fnds [3, 2, 0, 1] (by kernel_rfl) ⟨by kernel_rfl, by kernel_rfl, by kernel_rfl, by kernel_rfl, trivial⟩ (by kernel_rfl)), ?_⟩
              refine H_run tt_ok [17] (f' := 6) (by kernel_rfl) (by kernel_rfl) (by kernel_rfl) ?_
              refine H_two 8 18 (by kernel_rfl) (by kernel_rfl) (by kernel_rfl) (fun hfz cx' hx1 hx2 => ?_) (fun hfz cx' hx1 hx2 => ?_)
              · refine LIT tt_ok (by kernel_rfl) ?_
                refine LITSL 8 3 1 1 [.int .i64 (b.loads.getD k1 zLoad).w.lo] [(b.loads.getD k1 zLoad).w.lo] encI 0 (by kernel_rfl) rfl (fun _ => rfl) (fun n => rfl) ?_
                refine WPO_end (by kernel_rfl) ⟨rfl, (hfz.fnds [3, 2, 0, 1] (by kernel_rfl) ⟨by kernel_rfl, by kernel_rfl, by kernel_rfl, by kernel_rfl, trivial⟩ (by kernel_rfl)), ?_⟩
                refine H_two 9 18 (by kernel_rfl) (by kernel_rfl) (by kernel_rfl) (fun hfz cx' hx1 hx2 => ?_) (fun hfz cx' hx1 hx2 => ?_)
                · refine APP tt_ok (.s (.ref 7)) (.s (.ref 8)) 33 3 (some 29) 1 v1_2 ([(b.loads.getD k1 zLoad).w.lo]) encI 0 (by kernel_rfl) (by kernel_rfl) (by kernel_rfl) (by kernel_rfl) (.inr (.inl ⟨7, rfl, (by kernel_rfl)⟩)) (.inr ⟨8, .own, rfl, (by kernel_rfl), (by simp only [List.length_cons, List.length_nil]; omega)⟩) (by simp) (fun y => rfl) (fun y => List.all_eq_true.1 rfl) (fun i hi => (by have hby : (tyL tt 3).map (·.bytes) = some 8 := (by kernel_rfl); rw [hi] at hby; simp only [Option.map_some, Option.some.injEq] at hby; rw [hby]; simp only [List.length_append, List.length_cons, List.length_nil]; omega)) ?_
                  refine WPO_end (by kernel_rfl) ⟨rfl, (hfz.fnds [3, 2, 0, 1] (by kernel_rfl) ⟨by kernel_rfl, by kernel_rfl, by kernel_rfl, by kernel_rfl, trivial⟩ (by kernel_rfl)), ?_⟩
                  refine H_step 18 (by kernel_rfl) (by kernel_rfl) (fun hfz cx' hx1 hx2 => ?_)
                  refine LIT tt_ok (by kernel_rfl) ?_
                  refine LITSL 10 3 1 1 [.int .i64 (b.loads.getD k1 zLoad).w.hi] [(b.loads.getD k1 zLoad).w.hi] encI 0 (by kernel_rfl) rfl (fun _ => rfl) (fun n => rfl) ?_
                  refine WPO_end (by kernel_rfl) ⟨rfl, (hfz.fnds [3, 2, 0, 1] (by kernel_rfl) ⟨by kernel_rfl, by kernel_rfl, by kernel_rfl, by kernel_rfl, trivial⟩ (by kernel_rfl)), ?_⟩
                  refine H_step 19 (by kernel_rfl) (by kernel_rfl) (fun hfz cx' hx1 hx2 => ?_)
                  refine APP tt_ok (.s (.ref 6)) (.s (.ref 10)) 33 3 (some 39) 1 v1_1 ([(b.loads.getD k1 zLoad).w.hi]) encI 0 (by kernel_rfl) (by kernel_rfl) (by kernel_rfl) (by kernel_rfl) (.inr (.inl ⟨6, rfl, (by kernel_rfl)⟩)) (.inr ⟨10, .own, rfl, (by kernel_rfl), (by simp only [List.length_cons, List.length_nil]; omega)⟩) (by simp) (fun y => rfl) (fun y => List.all_eq_true.1 rfl) (fun i hi => (by have hby : (tyL tt 3).map (·.bytes) = some 8 := (by kernel_rfl); rw [hi] at hby; simp only [Option.map_some, Option.some.injEq] at hby; rw [hby]; simp only [List.length_append, List.length_cons, List.length_nil]; omega)) ?_
                  refine WPO_end (by kernel_rfl) ⟨rfl, (hfz.fnds [3, 2, 0, 1] (by kernel_rfl) ⟨by kernel_rfl, by kernel_rfl, by kernel_rfl, by kernel_rfl, trivial⟩ (by kernel_rfl)), ?_⟩
                  refine H_run tt_ok [20, 21] (f' := 0) (by kernel_rfl) (by kernel_rfl) (by kernel_rfl) ?_
                  refine H_done (by kernel_rfl) ?_
                  exact ⟨(), Le_sel (ts := [6, 5, 7, 4, 2, 1]) (ids := [11, 9, 3, 2, 0, 1]) (nx := 12) (by kernel_rfl)⟩
                · refine LIT tt_ok (by kernel_rfl) ?_
                  refine LITSL 9 3 1 1 [.int .i64 (b.loads.getD k1 zLoad).w.hi] [(b.loads.getD k1 zLoad).w.hi] encI 0 (by kernel_rfl) rfl (fun _ => rfl) (fun n => rfl) ?_
                  refine WPO_end (by kernel_rfl) ⟨rfl, (hfz.fnds [3, 2, 0, 1] (by kernel_rfl) ⟨by kernel_rfl, by kernel_rfl, by kernel_rfl, by kernel_rfl, trivial⟩ (by kernel_rfl)), ?_⟩
                  refine H_step 9 (by kernel_rfl) (by kernel_rfl) (fun hfz cx' hx1 hx2 => ?_)
                  refine APP tt_ok (.s (.ref 7)) (.s (.ref 8)) 33 3 (some 29) 1 v1_2 ([(b.loads.getD k1 zLoad).w.lo]) encI 0 (by kernel_rfl) (by kernel_rfl) (by kernel_rfl) (by kernel_rfl) (.inr (.inl ⟨7, rfl, (by kernel_rfl)⟩)) (.inr ⟨8, .own, rfl, (by kernel_rfl), (by simp only [List.length_cons, List.length_nil]; omega)⟩) (by simp) (fun y => rfl) (fun y => List.all_eq_true.1 rfl) (fun i hi => (by have hby : (tyL tt 3).map (·.bytes) = some 8 := (by kernel_rfl); rw [hi] at hby; simp only [Option.map_some, Option.some.injEq] at hby; rw [hby]; simp only [List.length_append, List.length_cons, List.length_nil]; omega)) ?_
                  refine WPO_end (by kernel_rfl) ⟨rfl, (hfz.fnds [3, 2, 0, 1] (by kernel_rfl) ⟨by kernel_rfl, by kernel_rfl, by kernel_rfl, by kernel_rfl, trivial⟩ (by kernel_rfl)), ?_⟩
                  refine H_step 19 (by kernel_rfl) (by kernel_rfl) (fun hfz cx' hx1 hx2 => ?_)
                  refine APP tt_ok (.s (.ref 6)) (.s (.ref 9)) 33 3 (some 39) 1 v1_1 ([(b.loads.getD k1 zLoad).w.hi]) encI 0 (by kernel_rfl) (by kernel_rfl) (by kernel_rfl) (by kernel_rfl) (.inr (.inl ⟨6, rfl, (by kernel_rfl)⟩)) (.inr ⟨9, .own, rfl, (by kernel_rfl), (by simp only [List.length_cons, List.length_nil]; omega)⟩) (by simp) (fun y => rfl) (fun y => List.all_eq_true.1 rfl) (fun i hi => (by have hby : (tyL tt 3).map (·.bytes) = some 8 := (by kernel_rfl); rw [hi] at hby; simp only [Option.map_some, Option.some.injEq] at hby; rw [hby]; simp only [List.length_append, List.length_cons, List.length_nil]; omega)) ?_
                  refine WPO_end (by kernel_rfl) ⟨rfl, (hfz.fnds [3, 2, 0, 1] (by kernel_rfl) ⟨by kernel_rfl, by kernel_rfl, by kernel_rfl, by kernel_rfl, trivial⟩ (by kernel_rfl)), ?_⟩
                  refine H_run tt_ok [20, 21] (f' := 0) (by kernel_rfl) (by kernel_rfl) (by kernel_rfl) ?_
                  refine H_done (by kernel_rfl) ?_
                  exact ⟨(), Le_ren [(9, 10)] ⟨by kernel_rfl, by kernel_rfl, by kernel_rfl, by kernel_rfl, by kernel_rfl, by kernel_rfl, trivial⟩ ⟨by kernel_rfl, rfl, by kernel_rfl, by kernel_rfl, rfl, by kernel_rfl, by kernel_rfl, rfl, by kernel_rfl, by kernel_rfl, rfl, by kernel_rfl, by kernel_rfl, rfl, by kernel_rfl, by kernel_rfl, rfl, by kernel_rfl, trivial⟩ (by kernel_rfl) (by kernel_rfl) (rnm_id (m := 2) (by kernel_rfl)) (by show 2 ≤ 12; decide) (by kernel_rfl) (by kernel_rfl)⟩
              · refine LIT tt_ok (by kernel_rfl) ?_
                refine LITSL 8 3 1 1 [.int .i64 (b.loads.getD k1 zLoad).w.hi] [(b.loads.getD k1 zLoad).w.hi] encI 0 (by kernel_rfl) rfl (fun _ => rfl) (fun n => rfl) ?_
                refine WPO_end (by kernel_rfl) ⟨rfl, (hfz.fnds [3, 2, 0, 1] (by kernel_rfl) ⟨by kernel_rfl, by kernel_rfl, by kernel_rfl, by kernel_rfl, trivial⟩ (by kernel_rfl)), ?_⟩
                refine H_step 8 (by kernel_rfl) (by kernel_rfl) (fun hfz cx' hx1 hx2 => ?_)
                refine LIT tt_ok (by kernel_rfl) ?_
                refine LITSL 9 3 1 1 [.int .i64 (b.loads.getD k1 zLoad).w.lo] [(b.loads.getD k1 zLoad).w.lo] encI 0 (by kernel_rfl) rfl (fun _ => rfl) (fun n => rfl) ?_
                refine WPO_end (by kernel_rfl) ⟨rfl, (hfz.fnds [3, 2, 0, 1] (by kernel_rfl) ⟨by kernel_rfl, by kernel_rfl, by kernel_rfl, by kernel_rfl, trivial⟩ (by kernel_rfl)), ?_⟩
                refine H_step 9 (by kernel_rfl) (by kernel_rfl) (fun hfz cx' hx1 hx2 => ?_)
                refine APP tt_ok (.s (.ref 7)) (.s (.ref 9)) 33 3 (some 29) 1 v1_2 ([(b.loads.getD k1 zLoad).w.lo]) encI 0 (by kernel_rfl) (by kernel_rfl) (by kernel_rfl) (by kernel_rfl) (.inr (.inl ⟨7, rfl, (by kernel_rfl)⟩)) (.inr ⟨9, .own, rfl, (by kernel_rfl), (by simp only [List.length_cons, List.length_nil]; omega)⟩) (by simp) (fun y => rfl) (fun y => List.all_eq_true.1 rfl) (fun i hi => (by have hby : (tyL tt 3).map (·.bytes) = some 8 := (by kernel_rfl); rw [hi] at hby; simp only [Option.map_some, Option.some.injEq] at hby; rw [hby]; simp only [List.length_append, List.length_cons, List.length_nil]; omega)) ?_
                refine WPO_end (by kernel_rfl) ⟨rfl, (hfz.fnds [3, 2, 0, 1] (by kernel_rfl) ⟨by kernel_rfl, by kernel_rfl, by kernel_rfl, by kernel_rfl, trivial⟩ (by kernel_rfl)), ?_⟩
                refine H_step 19 (by kernel_rfl) (by kernel_rfl) (fun hfz cx' hx1 hx2 => ?_)
                refine APP tt_ok (.s (.ref 6)) (.s (.ref 8)) 33 3 (some 39) 1 v1_1 ([(b.loads.getD k1 zLoad).w.hi]) encI 0 (by kernel_rfl) (by kernel_rfl) (by kernel_rfl) (by kernel_rfl) (.inr (.inl ⟨6, rfl, (by kernel_rfl)⟩)) (.inr ⟨8, .own, rfl, (by kernel_rfl), (by simp only [List.length_cons, List.length_nil]; omega)⟩) (by simp) (fun y => rfl) (fun y => List.all_eq_true.1 rfl) (fun i hi => (by have hby : (tyL tt 3).map (·.bytes) = some 8 := (by kernel_rfl); rw [hi] at hby; simp only [Option.map_some, Option.some.injEq] at hby; rw [hby]; simp only [List.length_append, List.length_cons, List.length_nil]; omega)) ?_
                refine WPO_end (by kernel_rfl) ⟨rfl, (hfz.fnds [3, 2, 0, 1] (by kernel_rfl) ⟨by kernel_rfl, by kernel_rfl, by kernel_rfl, by kernel_rfl, trivial⟩ (by kernel_rfl)), ?_⟩
                refine H_run tt_ok [20, 21] (f' := 0) (by kernel_rfl) (by kernel_rfl) (by kernel_rfl) ?_
                refine H_done (by kernel_rfl) ?_
                exact ⟨(), Le_ren [(9, 10)] ⟨by kernel_rfl, by kernel_rfl, by kernel_rfl, by kernel_rfl, by kernel_rfl, by kernel_rfl, trivial⟩ ⟨by kernel_rfl, rfl, by kernel_rfl, by kernel_rfl, rfl, by kernel_rfl, by kernel_rfl, rfl, by kernel_rfl, by kernel_rfl, rfl, by kernel_rfl, by kernel_rfl, rfl, by kernel_rfl, by kernel_rfl, rfl, by kernel_rfl, trivial⟩ (by kernel_rfl) (by kernel_rfl) (rnm_id (m := 2) (by kernel_rfl)) (by show 2 ≤ 12; decide) (by kernel_rfl) (by kernel_rfl)⟩
        · refine WPO_all tt_ok (by kernel_rfl) ?_
          refine ⟨rfl, (hfz.fnds [3, 2, 0, 1] (by kernel_rfl) ⟨by kernel_rfl, by kernel_rfl, by kernel_rfl, by kernel_rfl, trivial⟩ (by kernel_rfl)), ?_⟩
          refine H_two 6 16 (by kernel_rfl) (by kernel_rfl) (by kernel_rfl) (fun hfz cx' hx1 hx2 => ?_) (fun hfz cx' hx1 hx2 => ?_)
          · refine WPO_all tt_ok (by kernel_rfl) ?_
            refine ⟨rfl, (hfz.fnds [3, 2, 0, 1] (by kernel_rfl) ⟨by kernel_rfl, by kernel_rfl, by kernel_rfl, by kernel_rfl, trivial⟩ (by kernel_rfl)), ?_⟩
            refine H_run tt_ok [7] (f' := 8) (by kernel_rfl) (by kernel_rfl) (by kernel_rfl) ?_
            refine H_two 8 16 (by kernel_rfl) (by kernel_rfl) (by kernel_rfl) (fun hfz cx' hx1 hx2 => ?_) (fun hfz cx' hx1 hx2 => ?_)
            · refine LIT tt_ok (by kernel_rfl) ?_
              refine LITSL 8 3 1 1 [.int .i64 (b.loads.getD k1 zLoad).w.lo] [(b.loads.getD k1 zLoad).w.lo] encI 0 (by kernel_rfl) rfl (fun _ => rfl) (fun n => rfl) ?_
              refine WPO_end (by kernel_rfl) ⟨rfl, (hfz.fnds [3, 2, 0, 1] (by kernel_rfl) ⟨by kernel_rfl, by kernel_rfl, by kernel_rfl, by kernel_rfl, trivial⟩ (by kernel_rfl)), ?_⟩
              refine H_two 9 16 (by kernel_rfl) (by kernel_rfl) (by kernel_rfl) (fun hfz cx' hx1 hx2 => ?_) (fun hfz cx' hx1 hx2 => ?_)
              · refine APP tt_ok (.s (.ref 7)) (.s (.ref 8)) 33 3 (some 29) 1 v1_2 ([(b.loads.getD k1 zLoad).w.lo]) encI 0 (by kernel_rfl) (by kernel_rfl) (by kernel_rfl) (by kernel_rfl) (.inr (.inl ⟨7, rfl, (by kernel_rfl)⟩)) (.inr ⟨8, .own, rfl, (by kernel_rfl), (by simp only [List.length_cons, List.length_nil]; omega)⟩) (by simp) (fun y => rfl) (fun y => List.all_eq_true.1 rfl) (fun i hi => (by have hby : (tyL tt 3).map (·.bytes) = some 8 := (by kernel_rfl); rw [hi] at hby; simp only [Option.map_some, Option.some.injEq] at hby; rw [hby]; simp only [List.length_append, List.length_cons, List.length_nil]; omega)) ?_
                refine WPO_end (by kernel_rfl) ⟨rfl, (hfz.fnds [3, 2, 0, 1] (by kernel_rfl) ⟨by kernel_rfl, by kernel_rfl, by kernel_rfl, by kernel_rfl, trivial⟩ (by kernel_rfl)), ?_⟩
                refine H_step 16 (by kernel_rfl) (by kernel_rfl) (fun hfz cx' hx1 hx2 => ?_)
                refine WPO_all tt_ok (by kernel_rfl) ?_
                refine ⟨rfl, (hfz.fnds [3, 2, 0, 1] (by kernel_rfl) ⟨by kernel_rfl, by kernel_rfl, by kernel_rfl, by kernel_rfl, trivial⟩ (by kernel_rfl)), ?_⟩
                refine H_run tt_ok [17] (f' := 4) (by kernel_rfl) (by kernel_rfl) (by kernel_rfl) ?_
                refine H_step 18 (by kernel_rfl) (by kernel_rfl) (fun hfz cx' hx1 hx2 => ?_)
                refine LIT tt_ok (by kernel_rfl) ?_
                refine LITSL 10 3 1 1 [.int .i64 (b.loads.getD k1 zLoad).w.hi] [(b.loads.getD k1 zLoad).w.hi] encI 0 (by kernel_rfl) rfl (fun _ => rfl) (fun n => rfl) ?_
                refine WPO_end (by kernel_rfl) ⟨rfl, (hfz.fnds [3, 2, 0, 1] (by kernel_rfl) ⟨by kernel_rfl, by kernel_rfl, by kernel_rfl, by kernel_rfl, trivial⟩ (by kernel_rfl)), ?_⟩
                refine H_step 19 (by kernel_rfl) (by kernel_rfl) (fun hfz cx' hx1 hx2 => ?_)
                refine APP tt_ok (.s (.ref 6)) (.s (.ref 10)) 33 3 (some 39) 1 v1_1 ([(b.loads.getD k1 zLoad).w.hi]) encI 0 (by kernel_rfl) (by kernel_rfl) (by kernel_rfl) (by kernel_rfl) (.inr (.inl ⟨6, rfl, (by kernel_rfl)⟩)) (.inr ⟨10, .own, rfl, (by kernel_rfl), (by simp only [List.length_cons, List.length_nil]; omega)⟩) (by simp) (fun y => rfl) (fun y => List.all_eq_true.1 rfl) (fun i hi => (by have hby : (tyL tt 3).map (·.bytes) = some 8 := (by kernel_rfl); rw [hi] at hby; simp only [Option.map_some, Option.some.injEq] at hby; rw [hby]; simp only [List.length_append, List.length_cons, List.length_nil]; omega)) ?_
                refine WPO_end (by kernel_rfl) ⟨rfl, (hfz.fnds [3, 2, 0, 1] (by kernel_rfl) ⟨by kernel_rfl, by kernel_rfl, by kernel_rfl, by kernel_rfl, trivial⟩ (by kernel_rfl)), ?_⟩
                refine H_run tt_ok [20, 21] (f' := 0) (by kernel_rfl) (by kernel_rfl) (by kernel_rfl) ?_
                refine H_done (by kernel_rfl) ?_
                exact ⟨(), Le_sel (ts := [6, 5, 7, 4, 2, 1]) (ids := [11, 9, 3, 2, 0, 1]) (nx := 12) (by kernel_rfl)⟩
              · refine WPO_all tt_ok (by kernel_rfl) ?_
                refine ⟨rfl, (hfz.fnds [3, 2, 0, 1] (by kernel_rfl) ⟨by kernel_rfl, by kernel_rfl, by kernel_rfl, by kernel_rfl, trivial⟩ (by kernel_rfl)), ?_⟩
                refine H_run tt_ok [17] (f' := 5) (by kernel_rfl) (by kernel_rfl) (by kernel_rfl) ?_
                refine H_two 9 18 (by kernel_rfl) (by kernel_rfl) (by kernel_rfl) (fun hfz cx' hx1 hx2 => ?_) (fun hfz cx' hx1 hx2 => ?_)
                · refine APP tt_ok (.s (.ref 7)) (.s (.ref 8)) 33 3 (some 29) 1 v1_2 ([(b.loads.getD k1 zLoad).w.lo]) encI 0 (by kernel_rfl) (by kernel_rfl) (by kernel_rfl) (by kernel_rfl) (.inr (.inl ⟨7, rfl, (by kernel_rfl)⟩)) (.inr ⟨8, .own, rfl, (by kernel_rfl), (by simp only [List.length_cons, List.length_nil]; omega)⟩) (by simp) (fun y => rfl) (fun y => List.all_eq_true.1 rfl) (fun i hi => (by have hby : (tyL tt 3).map (·.bytes) = some 8 := (by kernel_rfl); rw [hi] at hby; simp only [Option.map_some, Option.some.injEq] at hby; rw [hby]; simp only [List.length_append, List.length_cons, List.length_nil]; omega)) ?_
                  refine WPO_end (by kernel_rfl) ⟨rfl, (hfz.fnds [3, 2, 0, 1] (by kernel_rfl) ⟨by kernel_rfl, by kernel_rfl, by kernel_rfl, by kernel_rfl, trivial⟩ (by kernel_rfl)), ?_⟩
                  refine H_step 18 (by kernel_rfl) (by kernel_rfl) (fun hfz cx' hx1 hx2 => ?_)
                  refine LIT tt_ok (by kernel_rfl) ?_
                  refine LITSL 10 3 1 1 [.int .i64 (b.loads.getD k1 zLoad).w.hi] [(b.loads.getD k1 zLoad).w.hi] encI 0 (by kernel_rfl) rfl (fun _ => rfl) (fun n => rfl) ?_
                  refine WPO_end (by kernel_rfl) ⟨rfl, (hfz.fnds [3, 2, 0, 1] (by kernel_rfl) ⟨by kernel_rfl, by kernel_rfl, by kernel_rfl, by kernel_rfl, trivial⟩ (by kernel_rfl)), ?_⟩
                  refine H_step 19 (by kernel_rfl) (by kernel_rfl) (fun hfz cx' hx1 hx2 => ?_)
                  refine APP tt_ok (.s (.ref 6)) (.s (.ref 10)) 33 3 (some 39) 1 v1_1 ([(b.loads.getD k1 zLoad).w.hi]) encI 0 (by kernel_rfl) (by kernel_rfl) (by kernel_rfl) (by kernel_rfl) (.inr (.inl ⟨6, rfl, (by kernel_rfl)⟩)) (.inr ⟨10, .own, rfl, (by kernel_rfl), (by simp only [List.length_cons, List.length_nil]; omega)⟩) (by simp) (fun y => rfl) (fun y => List.all_eq_true.1 rfl) (fun i hi => (by have hby : (tyL tt 3).map (·.bytes) = some 8 := (by kernel_rfl); rw [hi] at hby; simp only [Option.map_some, Option.some.injEq] at hby; rw [hby]; simp only [List.length_append, List.length_cons, List.length_nil]; omega)) ?_
                  refine WPO_end (by kernel_rfl) ⟨rfl, (hfz.fnds [3, 2, 0, 1] (by kernel_rfl) ⟨by kernel_rfl, by kernel_rfl, by kernel_rfl, by kernel_rfl, trivial⟩ (by kernel_rfl)), ?_⟩
                  refine H_run tt_ok [20, 21] (f' := 0) (by kernel_rfl) (by kernel_rfl) (by kernel_rfl) ?_
                  refine H_done (by kernel_rfl) ?_
                  exact ⟨(), Le_sel (ts := [6, 5, 7, 4, 2, 1]) (ids := [11, 9, 3, 2, 0, 1]) (nx := 12) (by kernel_rfl)⟩
                · refine LIT tt_ok (by kernel_rfl) ?_
                  refine LITSL 9 3 1 1 [.int .i64 (b.loads.getD k1 zLoad).w.hi] [(b.loads.getD k1 zLoad).w.hi] encI 0 (by kernel_rfl) rfl (fun _ => rfl) (fun n => rfl) ?_
                  refine WPO_end (by kernel_rfl) ⟨rfl, (hfz.fnds [3, 2, 0, 1] (by kernel_rfl) ⟨by kernel_rfl, by kernel_rfl, by kernel_rfl, by kernel_rfl, trivial⟩ (by kernel_rfl)), ?_⟩
                  refine H_step 9 (by kernel_rfl) (by kernel_rfl) (fun hfz cx' hx1 hx2 => ?_)
                  refine APP tt_ok (.s (.ref 7)) (.s (.ref 8)) 33 3 (some 29) 1 v1_2 ([(b.loads.getD k1 zLoad).w.lo]) encI 0 (by kernel_rfl) (by kernel_rfl) (by kernel_rfl) (by kernel_rfl) (.inr (.inl ⟨7, rfl, (by kernel_rfl)⟩)) (.inr ⟨8, .own, rfl, (by kernel_rfl), (by simp only [List.length_cons, List.length_nil]; omega)⟩) (by simp) (fun y => rfl) (fun y => List.all_eq_true.1 rfl) (fun i hi => (by have hby : (tyL tt 3).map (·.bytes) = some 8 := (by kernel_rfl); rw [hi] at hby; simp only [Option.map_some, Option.some.injEq] at hby; rw [hby]; simp only [List.length_append, List.length_cons, List.length_nil]; omega)) ?_
                  refine WPO_end (by kernel_rfl) ⟨rfl, (hfz.fnds [3, 2, 0, 1] (by kernel_rfl) ⟨by kernel_rfl, by kernel_rfl, by kernel_rfl, by kernel_rfl, trivial⟩ (by kernel_rfl)), ?_⟩
                  refine H_step 19 (by kernel_rfl) (by kernel_rfl) (fun hfz cx' hx1 hx2 => ?_)
                  refine APP tt_ok (.s (.ref 6)) (.s (.ref 9)) 33 3 (some 39) 1 v1_1 ([(b.loads.getD k1 zLoad).w.hi]) encI 0 (by kernel_rfl) (by kernel_rfl) (by kernel_rfl) (by kernel_rfl) (.inr (.inl ⟨6, rfl, (by kernel_rfl)⟩)) (.inr ⟨9, .own, rfl, (by kernel_rfl), (by simp only [List.length_cons, List.length_nil]; omega)⟩) (by simp) (fun y => rfl) (fun y => List.all_eq_true.1 rfl) (fun i hi => (by have hby : (tyL tt 3).map (·.bytes) = some 8 := (by kernel_rfl); rw [hi] at hby; simp only [Option.map_some, Option.some.injEq] at hby; rw [hby]; simp only [List.length_append, List.length_cons, List.length_nil]; omega)) ?_
                  refine WPO_end (by kernel_rfl) ⟨rfl, (hfz.fnds [3, 2, 0, 1] (by kernel_rfl) ⟨by kernel_rfl, by kernel_rfl, by kernel_rfl, by kernel_rfl, trivial⟩ (by kernel_rfl)), ?_⟩
                  refine H_run tt_ok [20, 21] (f' := 0) (by kernel_rfl) (by kernel_rfl) (by kernel_rfl) ?_
                  refine H_done (by kernel_rfl) ?_
                  exact ⟨(), Le_ren [(9, 10)] ⟨by kernel_rfl, by kernel_rfl, by kernel_rfl, by kernel_rfl, by kernel_rfl, by kernel_rfl, trivial⟩ ⟨by kernel_rfl, rfl, by kernel_rfl, by kernel_rfl, rfl, by kernel_rfl, by kernel_rfl, rfl, by kernel_rfl, by kernel_rfl, rfl, by kernel_rfl, by kernel_rfl, rfl, by kernel_rfl, by kernel_rfl, rfl, by kernel_rfl, trivial⟩ (by kernel_rfl) (by kernel_rfl) (rnm_id (m := 2) (by kernel_rfl)) (by show 2 ≤ 12; decide) (by kernel_rfl) (by kernel_rfl)⟩
            · refine WPO_all tt_ok (by kernel_rfl) ?_
              refine ⟨rfl, (hfz.fnds [3, 2, 0, 1] (by kernel_rfl) ⟨by kernel_rfl, by kernel_rfl, by kernel_rfl, by kernel_rfl, trivial⟩ (by kernel_rfl)), ?_⟩
              refine H_run tt_ok [17] (f' := 6) (by kernel_rfl) (by kernel_rfl) (by kernel_rfl) ?_
              refine H_two 8 18 (by kernel_rfl) (by kernel_rfl) (by kernel_rfl) (fun hfz cx' hx1 hx2 => ?_) (fun hfz cx' hx1 hx2 => ?_)
              · refine LIT tt_ok (by kernel_rfl) ?_
                refine LITSL 8 3 1 1 [.int .i64 (b.loads.getD k1 zLoad).w.lo] [(b.loads.getD k1 zLoad).w.lo] encI 0 (by kernel_rfl) rfl (fun _ => rfl) (fun n => rfl) ?_
                refine WPO_end (by kernel_rfl) ⟨rfl, (hfz.fnds [3, 2, 0, 1] (by kernel_rfl) ⟨by kernel_rfl, by kernel_rfl, by kernel_rfl, by kernel_rfl, trivial⟩ (by kernel_rfl)), ?_⟩
                refine H_two 9 18 (by kernel_rfl) (by kernel_rfl) (by kernel_rfl) (fun hfz cx' hx1 hx2 => ?_) (fun hfz cx' hx1 hx2 => ?_)
                · refine APP tt_ok (.s (.ref 7)) (.s (.ref 8)) 33 3 (some 29) 1 v1_2 ([(b.loads.getD k1 zLoad).w.lo]) encI 0 (by kernel_rfl) (by kernel_rfl) (by kernel_rfl) (by kernel_rfl) (.inr (.inl ⟨7, rfl, (by kernel_rfl)⟩)) (.inr ⟨8, .own, rfl, (by kernel_rfl), (by simp only [List.length_cons, List.length_nil]; omega)⟩) (by simp) (fun y => rfl) (fun y => List.all_eq_true.1 rfl) (fun i hi => (by have hby : (tyL tt 3).map (·.bytes) = some 8 := (by kernel_rfl); rw [hi] at hby; simp only [Option.map_some, Option.some.injEq] at hby; rw [hby]; simp only [List.length_append, List.length_cons, List.length_nil]; omega)) ?_
                  refine WPO_end (by kernel_rfl) ⟨rfl, (hfz.fnds [3, 2, 0, 1] (by kernel_rfl) ⟨by kernel_rfl, by kernel_rfl, by kernel_rfl, by kernel_rfl, trivial⟩ (by kernel_rfl)), ?_⟩
                  refine H_step 18 (by kernel_rfl) (by kernel_rfl) (fun hfz cx' hx1 hx2 => ?_)
                  refine LIT tt_ok (by kernel_rfl) ?_
                  refine LITSL 10 3 1 1 [.int .i64 (b.loads.getD k1 zLoad).w.hi] [(b.loads.getD k1 zLoad).w.hi] encI 0 (by kernel_rfl) rfl (fun _ => rfl) (fun n => rfl) ?_
                  refine WPO_end (by kernel_rfl) ⟨rfl, (hfz.fnds [3, 2, 0, 1] (by kernel_rfl) ⟨by kernel_rfl, by kernel_rfl, by kernel_rfl, by kernel_rfl, trivial⟩ (by kernel_rfl)), ?_⟩
                  refine H_step 19 (by kernel_rfl) (by kernel_rfl) (fun hfz cx' hx1 hx2 => ?_)
                  refine APP tt_ok (.s (.ref 6)) (.s (.ref 10)) 33 3 (some 39) 1 v1_1 ([(b.loads.getD k1 zLoad).w.hi]) encI 0 (by kernel_rfl) (by kernel_rfl) (by kernel_rfl) (by kernel_rfl) (.inr (.inl ⟨6, rfl, (by kernel_rfl)⟩)) (.inr ⟨10, .own, rfl, (by kernel_rfl), (by simp only [List.length_cons, List.length_nil]; omega)⟩) (by simp) (fun y => rfl) (fun y => List.all_eq_true.1 rfl) (fun i hi => (by have hby : (tyL tt 3).map (·.bytes) = some 8 := (by kernel_rfl); rw [hi] at hby; simp only [Option.map_some, Option.some.injEq] at hby; rw [hby]; simp only [List.length_append, List.length_cons, List.length_nil]; omega)) ?_
                  refine WPO_end (by kernel_rfl) ⟨rfl, (hfz.fnds [3, 2, 0, 1] (by kernel_rfl) ⟨by kernel_rfl, by kernel_rfl, by kernel_rfl, by kernel_rfl, trivial⟩ (by kernel_rfl)), ?_⟩
                  refine H_run tt_ok [20, 21] (f' := 0) (by kernel_rfl) (by kernel_rfl) (by kernel_rfl) ?_
                  refine H_done (by kernel_rfl) ?_
                  exact ⟨(), Le_sel (ts := [6, 5, 7, 4, 2, 1]) (ids := [11, 9, 3, 2, 0, 1]) (nx := 12) (by kernel_rfl)⟩
                · refine LIT tt_ok (by kernel_rfl) ?_
                  refine LITSL 9 3 1 1 [.int .i64 (b.loads.getD k1 zLoad).w.hi] [(b.loads.getD k1 zLoad).w.hi] encI 0 (by kernel_rfl) rfl (fun _ => rfl) (fun n => rfl) ?_
                  refine WPO_end (by kernel_rfl) ⟨rfl, (hfz.fnds [3, 2, 0, 1] (by kernel_rfl) ⟨by kernel_rfl, by kernel_rfl, by kernel_rfl, by kernel_rfl, trivial⟩ (by kernel_rfl)), ?_⟩
                  refine H_step 9 (by kernel_rfl) (by kernel_rfl) (fun hfz cx' hx1 hx2 => ?_)
                  refine APP tt_ok (.s (.ref 7)) (.s (.ref 8)) 33 3 (some 29) 1 v1_2 ([(b.loads.getD k1 zLoad).w.lo]) encI 0 (by kernel_rfl) (by kernel_rfl) (by kernel_rfl) (by kernel_rfl) (.inr (.inl ⟨7, rfl, (by kernel_rfl)⟩)) (.inr ⟨8, .own, rfl, (by kernel_rfl), (by simp only [List.length_cons, List.length_nil]; omega)⟩) (by simp) (fun y => rfl) (fun y => List.all_eq_true.1 rfl) (fun i hi => (by have hby : (tyL tt 3).map (·.bytes) = some 8 := (by kernel_rfl); rw [hi] at hby; simp only [Option.map_some, Option.some.injEq] at hby; rw [hby]; simp only [List.length_append, List.length_cons, List.length_nil]; omega)) ?_
                  refine WPO_end (by kernel_rfl) ⟨rfl, (hfz.fnds [3, 2, 0, 1] (by kernel_rfl) ⟨by kernel_rfl, by kernel_rfl, by kernel_rfl, by kernel_rfl, trivial⟩ (by kernel_rfl)), ?_⟩
                  refine H_step 19 (by kernel_rfl) (by kernel_rfl) (fun hfz cx' hx1 hx2 => ?_)
                  refine APP tt_ok (.s (.ref 6)) (.s (.ref 9)) 33 3 (some 39) 1 v1_1 ([(b.loads.getD k1 zLoad).w.hi]) encI 0 (by kernel_rfl) (by kernel_rfl) (by kernel_rfl) (by kernel_rfl) (.inr (.inl ⟨6, rfl, (by kernel_rfl)⟩)) (.inr ⟨9, .own, rfl, (by kernel_rfl), (by simp only [List.length_cons, List.length_nil]; omega)⟩) (by simp) (fun y => rfl) (fun y => List.all_eq_true.1 rfl) (fun i hi => (by have hby : (tyL tt 3).map (·.bytes) = some 8 := (by kernel_rfl); rw [hi] at hby; simp only [Option.map_some, Option.some.injEq] at hby; rw [hby]; simp only [List.length_append, List.length_cons, List.length_nil]; omega)) ?_
                  refine WPO_end (by kernel_rfl) ⟨rfl, (hfz.fnds [3, 2, 0, 1] (by kernel_rfl) ⟨by kernel_rfl, by kernel_rfl, by kernel_rfl, by kernel_rfl, trivial⟩ (by kernel_rfl)), ?_⟩
                  refine H_run tt_ok [20, 21] (f' := 0) (by kernel_rfl) (by kernel_rfl) (by kernel_rfl) ?_
                  refine H_done (by kernel_rfl) ?_
                  exact ⟨(), Le_ren [(9, 10)] ⟨by kernel_rfl, by kernel_rfl, by kernel_rfl, by kernel_rfl, by kernel_rfl, by kernel_rfl, trivial⟩ ⟨by kernel_rfl, rfl, by kernel_rfl, by kernel_rfl, rfl, by kernel_rfl, by kernel_rfl, rfl, by kernel_rfl, by kernel_rfl, rfl, by kernel_rfl, by kernel_rfl, rfl, by kernel_rfl, by kernel_rfl, rfl, by kernel_rfl, trivial⟩ (by kernel_rfl) (by kernel_rfl) (rnm_id (m := 2) (by kernel_rfl)) (by show 2 ≤ 12; decide) (by kernel_rfl) (by kernel_rfl)⟩
              · refine LIT tt_ok (by kernel_rfl) ?_
                refine LITSL 8 3 1 1 [.int .i64 (b.loads.getD k1 zLoad).w.hi] [(b.loads.getD k1 zLoad).w.hi] encI 0 (by kernel_rfl) rfl (fun _ => rfl) (fun n => rfl) ?_
                refine WPO_end (by kernel_rfl) ⟨rfl, (hfz.fnds [3, 2, 0, 1] (by kernel_rfl) ⟨by kernel_rfl, by kernel_rfl, by kernel_rfl, by kernel_rfl, trivial⟩ (by kernel_rfl)), ?_⟩
                refine H_step 8 (by kernel_rfl) (by kernel_rfl) (fun hfz cx' hx1 hx2 => ?_)
                refine LIT tt_ok (by kernel_rfl) ?_
                refine LITSL 9 3 1 1 [.int .i64 (b.loads.getD k1 zLoad).w.lo] [(b.loads.getD k1 zLoad).w.lo] encI 0 (by kernel_rfl) rfl (fun _ => rfl) (fun n => rfl) ?_
                refine WPO_end (by kernel_rfl) ⟨rfl, (hfz.fnds [3, 2, 0, 1] (by kernel_rfl) ⟨by kernel_rfl, by kernel_rfl, by kernel_rfl, by kernel_rfl, trivial⟩ (by kernel_rfl)), ?_⟩
                refine H_step 9 (by kernel_rfl) (by kernel_rfl) (fun hfz cx' hx1 hx2 => ?_)
                refine APP tt_ok (.s (.ref 7)) (.s (.ref 9)) 33 3 (some 29) 1 v1_2 ([(b.loads.getD k1 zLoad).w.lo]) encI 0 (by kernel_rfl) (by kernel_rfl) (by kernel_rfl) (by kernel_rfl) (.inr (.inl ⟨7, rfl, (by kernel_rfl)⟩)) (.inr ⟨9, .own, rfl, (by kernel_rfl), (by simp only [List.length_cons, List.length_nil]; omega)⟩) (by simp) (fun y => rfl) (fun y => List.all_eq_true.1 rfl) (fun i hi => (by have hby : (tyL tt 3).map (·.bytes) = some 8 := (by kernel_rfl); rw [hi] at hby; simp only [Option.map_some, Option.some.injEq] at hby; rw [hby]; simp only [List.length_append, List.length_cons, List.length_nil]; omega)) ?_
                refine WPO_end (by kernel_rfl) ⟨rfl, (hfz.fnds [3, 2, 0, 1] (by kernel_rfl) ⟨by kernel_rfl, by kernel_rfl, by kernel_rfl, by kernel_rfl, trivial⟩ (by kernel_rfl)), ?_⟩
                refine H_step 19 (by kernel_rfl) (by kernel_rfl) (fun hfz cx' hx1 hx2 => ?_)
                refine APP tt_ok (.s (.ref 6)) (.s (.ref 8)) 33 3 (some 39) 1 v1_1 ([(b.loads.getD k1 zLoad).w.hi]) encI 0 (by kernel_rfl) (by kernel_rfl) (by kernel_rfl) (by kernel_rfl) (.inr (.inl ⟨6, rfl, (by kernel_rfl)⟩)) (.inr ⟨8, .own, rfl, (by kernel_rfl), (by simp only [List.length_cons, List.length_nil]; omega)⟩) (by simp) (fun y => rfl) (fun y => List.all_eq_true.1 rfl) (fun i hi => (by have hby : (tyL tt 3).map (·.bytes) = some 8 := (by kernel_rfl); rw [hi] at hby; simp only [Option.map_some, Option.some.injEq] at hby; rw [hby]; simp only [List.length_append, List.length_cons, List.length_nil]; omega)) ?_
                refine WPO_end (by kernel_rfl) ⟨rfl, (hfz.fnds [3, 2, 0, 1] (by kernel_rfl) ⟨by kernel_rfl, by kernel_rfl, by kernel_rfl, by kernel_rfl, trivial⟩ (by kernel_rfl)), ?_⟩
                refine H_run tt_ok [20, 21] (f' := 0) (by kernel_rfl) (by kernel_rfl) (by kernel_rfl) ?_
                refine H_done (by kernel_rfl) ?_
                exact ⟨(), Le_ren [(9, 10)] ⟨by kernel_rfl, by kernel_rfl, by kernel_rfl, by kernel_rfl, by kernel_rfl, by kernel_rfl, trivial⟩ ⟨by kernel_rfl, rfl, by kernel_rfl, by kernel_rfl, rfl, by kernel_rfl, by kernel_rfl, rfl, by kernel_rfl, by kernel_rfl, rfl, by kernel_rfl, by kernel_rfl, rfl, by kernel_rfl, by kernel_rfl, rfl, by kernel_rfl, trivial⟩ (by kernel_rfl) (by kernel_rfl) (rnm_id (m := 2) (by kernel_rfl)) (by show 2 ≤ 12; decide) (by kernel_rfl) (by kernel_rfl)⟩
          · refine WPO_all tt_ok (by kernel_rfl) ?_
            refine ⟨rfl, (hfz.fnds [3, 2, 0, 1] (by kernel_rfl) ⟨by kernel_rfl, by kernel_rfl, by kernel_rfl, by kernel_rfl, trivial⟩ (by kernel_rfl)), ?_⟩
            refine H_run tt_ok [17] (f' := 8) (by kernel_rfl) (by kernel_rfl) (by kernel_rfl) ?_
            refine H_two 6 18 (by kernel_rfl) (by kernel_rfl) (by kernel_rfl) (fun hfz cx' hx1 hx2 => ?_) (fun hfz cx' hx1 hx2 => ?_)
            · refine WPO_all tt_ok (by kernel_rfl) ?_
              refine ⟨rfl, (hfz.fnds [3, 2, 0, 1] (by kernel_rfl) ⟨by kernel_rfl, by kernel_rfl, by kernel_rfl, by kernel_rfl, trivial⟩ (by kernel_rfl)), ?_⟩
              refine H_run tt_ok [7] (f' := 6) (by kernel_rfl) (by kernel_rfl) (by kernel_rfl) ?_
              refine H_two 8 18 (by kernel_rfl) (by kernel_rfl) (by kernel_rfl) (fun hfz cx' hx1 hx2 => ?_) (fun hfz cx' hx1 hx2 => ?_)
              · refine LIT tt_ok (by kernel_rfl) ?_
                refine LITSL 8 3 1 1 [.int .i64 (b.loads.getD k1 zLoad).w.lo] [(b.loads.getD k1 zLoad).w.lo] encI 0 (by kernel_rfl) rfl (fun _ => rfl) (fun n => rfl) ?_
                refine WPO_end (by kernel_rfl) ⟨rfl, (hfz.fnds [3, 2, 0, 1] (by kernel_rfl) ⟨by kernel_rfl, by kernel_rfl, by kernel_rfl, by kernel_rfl, trivial⟩ (by kernel_rfl)), ?_⟩
                refine H_two 9 18 (by kernel_rfl) (by kernel_rfl) (by kernel_rfl) (fun hfz cx' hx1 hx2 => ?_) (fun hfz cx' hx1 hx2 => ?_)
                · refine APP tt_ok (.s (.ref 7)) (.s (.ref 8)) 33 3 (some 29) 1 v1_2 ([(b.loads.getD k1 zLoad).w.lo]) encI 0 (by kernel_rfl) (by kernel_rfl) (by kernel_rfl) (by kernel_rfl) (.inr (.inl ⟨7, rfl, (by kernel_rfl)⟩)) (.inr ⟨8, .own, rfl, (by kernel_rfl), (by simp only [List.length_cons, List.length_nil]; omega)⟩) (by simp) (fun y => rfl) (fun y => List.all_eq_true.1 rfl) (fun i hi => (by have hby : (tyL tt 3).map (·.bytes) = some 8 := (by kernel_rfl); rw [hi] at hby; simp only [Option.map_some, Option.some.injEq] at hby; rw [hby]; simp only [List.length_append, List.length_cons, List.length_nil]; omega)) ?_
                  refine WPO_end (by kernel_rfl) ⟨rfl, (hfz.fnds [3, 2, 0, 1] (by kernel_rfl) ⟨by kernel_rfl, by kernel_rfl, by kernel_rfl, by kernel_rfl, trivial⟩ (by kernel_rfl)), ?_⟩
                  refine H_step 18 (by kernel_rfl) (by kernel_rfl) (fun hfz cx' hx1 hx2 => ?_)
                  refine LIT tt_ok (by kernel_rfl) ?_
                  refine LITSL 10 3 1 1 [.int .i64 (b.loads.getD k1 zLoad).w.hi] [(b.loads.getD k1 zLoad).w.hi] encI 0 (by kernel_rfl) rfl (fun _ => rfl) (fun n => rfl) ?_
                  refine WPO_end (by kernel_rfl) ⟨rfl, (hfz.fnds [3, 2, 0, 1] (by kernel_rfl) ⟨by kernel_rfl, by kernel_rfl, by kernel_rfl, by kernel_rfl, trivial⟩ (by kernel_rfl)), ?_⟩
                  refine H_step 19 (by kernel_rfl) (by kernel_rfl) (fun hfz cx' hx1 hx2 => ?_)
                  refine APP tt_ok (.s (.ref 6)) (.s (.ref 10)) 33 3 (some 39) 1 v1_1 ([(b.loads.getD k1 zLoad).w.hi]) encI 0 (by kernel_rfl) (by kernel_rfl) (by kernel_rfl) (by kernel_rfl) (.inr (.inl ⟨6, rfl, (by kernel_rfl)⟩)) (.inr ⟨10, .own, rfl, (by kernel_rfl), (by simp only [List.length_cons, List.length_nil]; omega)⟩) (by simp) (fun y => rfl) (fun y => List.all_eq_true.1 rfl) (fun i hi => (by have hby : (tyL tt 3).map (·.bytes) = some 8 := (by kernel_rfl); rw [hi] at hby; simp only [Option.map_some, Option.some.injEq] at hby; rw [hby]; simp only [List.length_append, List.length_cons, List.length_nil]; omega)) ?_
                  refine WPO_end (by kernel_rfl) ⟨rfl, (hfz.fnds [3, 2, 0, 1] (by kernel_rfl) ⟨by kernel_rfl, by kernel_rfl, by kernel_rfl, by kernel_rfl, trivial⟩ (by kernel_rfl)), ?_⟩
                  refine H_run tt_ok [20, 21] (f' := 0) (by kernel_rfl) (by kernel_rfl) (by kernel_rfl) ?_
                  refine H_done (by kernel_rfl) ?_
                  exact ⟨(), Le_sel (ts := [6, 5, 7, 4, 2, 1]) (ids := [11, 9, 3, 2, 0, 1]) (nx := 12) (by kernel_rfl)⟩
                · refine LIT tt_ok (by kernel_rfl) ?_
                  refine LITSL 9 3 1 1 [.int .i64 (b.loads.getD k1 zLoad).w.hi] [(b.loads.getD k1 zLoad).w.hi] encI 0 (by kernel_rfl) rfl (fun _ => rfl) (fun n => rfl) ?_
                  refine WPO_end (by kernel_rfl) ⟨rfl, (hfz.fnds [3, 2, 0, 1] (by kernel_rfl) ⟨by kernel_rfl, by kernel_rfl, by kernel_rfl, by kernel_rfl, trivial⟩ (by kernel_rfl)), ?_⟩
                  refine H_step 9 (by kernel_rfl) (by kernel_rfl) (fun hfz cx' hx1 hx2 => ?_)
                  refine APP tt_ok (.s (.ref 7)) (.s (.ref 8)) 33 3 (some 29) 1 v1_2 ([(b.loads.getD k1 zLoad).w.lo]) encI 0 (by kernel_rfl) (by kernel_rfl) (by kernel_rfl) (by kernel_rfl) (.inr (.inl ⟨7, rfl, (by kernel_rfl)⟩)) (.inr ⟨8, .own, rfl, (by kernel_rfl), (by simp only [List.length_cons, List.length_nil]; omega)⟩) (by simp) (fun y => rfl) (fun y => List.all_eq_true.1 rfl) (fun i hi => (by have hby : (tyL tt 3).map (·.bytes) = some 8 := (by kernel_rfl); rw [hi] at hby; simp only [Option.map_some, Option.some.injEq] at hby; rw [hby]; simp only [List.length_append, List.length_cons, List.length_nil]; omega)) ?_
                  refine WPO_end (by kernel_rfl) ⟨rfl, (hfz.fnds [3, 2, 0, 1] (by kernel_rfl) ⟨by kernel_rfl, by kernel_rfl, by kernel_rfl, by kernel_rfl, trivial⟩ (by kernel_rfl)), ?_⟩
                  refine H_step 19 (by kernel_rfl) (by kernel_rfl) (fun hfz cx' hx1 hx2 => ?_)
                  refine APP tt_ok (.s (.ref 6)) (.s (.ref 9)) 33 3 (some 39) 1 v1_1 ([(b.loads.getD k1 zLoad).w.hi]) encI 0 (by kernel_rfl) (by kernel_rfl) (by kernel_rfl) (by kernel_rfl) (.inr (.inl ⟨6, rfl, (by kernel_rfl)⟩)) (.inr ⟨9, .own, rfl, (by kernel_rfl), (by simp only [List.length_cons, List.length_nil]; omega)⟩) (by simp) (fun y => rfl) (fun y => List.all_eq_true.1 rfl) (fun i hi => (by have hby : (tyL tt 3).map (·.bytes) = some 8 := (by kernel_rfl); rw [hi] at hby; simp only [Option.map_some, Option.some.injEq] at hby; rw [hby]; simp only [List.length_append, List.length_cons, List.length_nil]; omega)) ?_
                  refine WPO_end (by kernel_rfl) ⟨rfl, (hfz.fnds [3, 2, 0, 1] (by kernel_rfl) ⟨by kernel_rfl, by kernel_rfl, by kernel_rfl, by kernel_rfl, trivial⟩ (by kernel_rfl)), ?_⟩
                  refine H_run tt_ok [20, 21] (f' := 0) (by kernel_rfl) (by kernel_rfl) (by kernel_rfl) ?_
                  refine H_done (by kernel_rfl) ?_
                  exact ⟨(), Le_ren [(9, 10)] ⟨by kernel_rfl, by kernel_rfl, by kernel_rfl, by kernel_rfl, by kernel_rfl, by kernel_rfl, trivial⟩ ⟨by kernel_rfl, rfl, by kernel_rfl, by kernel_rfl, rfl, by kernel_rfl, by kernel_rfl, rfl, by kernel_rfl, by kernel_rfl, rfl, by kernel_rfl, by kernel_rfl, rfl, by kernel_rfl, by kernel_rfl, rfl, by kernel_rfl, trivial⟩ (by kernel_rfl) (by kernel_rfl) (rnm_id (m := 2) (by kernel_rfl)) (by show 2 ≤ 12; decide) (by kernel_rfl) (by kernel_rfl)⟩
              · refine LIT tt_ok (by kernel_rfl) ?_
                refine LITSL 8 3 1 1 [.int .i64 (b.loads.getD k1 zLoad).w.hi] [(b.loads.getD k1 zLoad).w.hi] encI 0 (by kernel_rfl) rfl (fun _ => rfl) (fun n => rfl) ?_
                refine WPO_end (by kernel_rfl) ⟨rfl, (hfz.fnds [3, 2, 0, 1] (by kernel_rfl) ⟨by kernel_rfl, by kernel_rfl, by kernel_rfl, by kernel_rfl, trivial⟩ (by kernel_rfl)), ?_⟩
                refine H_step 8 (by kernel_rfl) (by kernel_rfl) (fun hfz cx' hx1 hx2 => ?_)
                refine LIT tt_ok (by kernel_rfl) ?_
                refine LITSL 9 3 1 1 [.int .i64 (b.loads.getD k1 zLoad).w.lo] [(b.loads.getD k1 zLoad).w.lo] encI 0 (by kernel_rfl) rfl (fun _ => rfl) (fun n => rfl) ?_
                refine WPO_end (by kernel_rfl) ⟨rfl, (hfz.fnds [3, 2, 0, 1] (by kernel_rfl) ⟨by kernel_rfl, by kernel_rfl, by kernel_rfl, by kernel_rfl, trivial⟩ (by kernel_rfl)), ?_⟩
                refine H_step 9 (by kernel_rfl) (by kernel_rfl) (fun hfz cx' hx1 hx2 => ?_)
                refine APP tt_ok (.s (.ref 7)) (.s (.ref 9)) 33 3 (some 29) 1 v1_2 ([(b.loads.getD k1 zLoad).w.lo]) encI 0 (by kernel_rfl) (by kernel_rfl) (by kernel_rfl) (by kernel_rfl) (.inr (.inl ⟨7, rfl, (by kernel_rfl)⟩)) (.inr ⟨9, .own, rfl, (by kernel_rfl), (by simp only [List.length_cons, List.length_nil]; omega)⟩) (by simp) (fun y => rfl) (fun y => List.all_eq_true.1 rfl) (fun i hi => (by have hby : (tyL tt 3).map (·.bytes) = some 8 := (by kernel_rfl); rw [hi] at hby; simp only [Option.map_some, Option.some.injEq] at hby; rw [hby]; simp only [List.length_append, List.length_cons, List.length_nil]; omega)) ?_
                refine WPO_end (by kernel_rfl) ⟨rfl, (hfz.fnds [3, 2, 0, 1] (by kernel_rfl) ⟨by kernel_rfl, by kernel_rfl, by kernel_rfl, by kernel_rfl, trivial⟩ (by kernel_rfl)), ?_⟩
                refine H_step 19 (by kernel_rfl) (by kernel_rfl) (fun hfz cx' hx1 hx2 => ?_)
                refine APP tt_ok (.s (.ref 6)) (.s (.ref 8)) 33 3 (some 39) 1 v1_1 ([(b.loads.getD k1 zLoad).w.hi]) encI 0 (by kernel_rfl) (by kernel_rfl) (by kernel_rfl) (by kernel_rfl) (.inr (.inl ⟨6, rfl, (by kernel_rfl)⟩)) (.inr ⟨8, .own, rfl, (by kernel_rfl), (by simp only [List.length_cons, List.length_nil]; omega)⟩) (by simp) (fun y => rfl) (fun y => List.all_eq_true.1 rfl) (fun i hi => (by have hby : (tyL tt 3).map (·.bytes) = some 8 := (by kernel_rfl); rw [hi] at hby; simp only [Option.map_some, Option.some.injEq] at hby; rw [hby]; simp only [List.length_append, List.length_cons, List.length_nil]; omega)) ?_
                refine WPO_end (by kernel_rfl) ⟨rfl, (hfz.fnds [3, 2, 0, 1] (by kernel_rfl) ⟨by kernel_rfl, by kernel_rfl, by kernel_rfl, by kernel_rfl, trivial⟩ (by kernel_rfl)), ?_⟩
                refine H_run tt_ok [20, 21] (f' := 0) (by kernel_rfl) (by kernel_rfl) (by kernel_rfl) ?_
                refine H_done (by kernel_rfl) ?_
                exact ⟨(), Le_ren [(9, 10)] ⟨by kernel_rfl, by kernel_rfl, by kernel_rfl, by kernel_rfl, by kernel_rfl, by kernel_rfl, trivial⟩ ⟨by kernel_rfl, rfl, by kernel_rfl, by kernel_rfl, rfl, by kernel_rfl, by kernel_rfl, rfl, by kernel_rfl, by kernel_rfl, rfl, by kernel_rfl, by kernel_rfl, rfl, by kernel_rfl, by kernel_rfl, rfl, by kernel_rfl, trivial⟩ (by kernel_rfl) (by kernel_rfl) (rnm_id (m := 2) (by kernel_rfl)) (by show 2 ≤ 12; decide) (by kernel_rfl) (by kernel_rfl)⟩
            · refine LIT tt_ok (by kernel_rfl) ?_
              refine LITSL 8 3 1 1 [.int .i64 (b.loads.getD k1 zLoad).w.hi] [(b.loads.getD k1 zLoad).w.hi] encI 0 (by kernel_rfl) rfl (fun _ => rfl) (fun n => rfl) ?_
              refine WPO_end (by kernel_rfl) ⟨rfl, (hfz.fnds [3, 2, 0, 1] (by kernel_rfl) ⟨by kernel_rfl, by kernel_rfl, by kernel_rfl, by kernel_rfl, trivial⟩ (by kernel_rfl)), ?_⟩
              refine H_step 6 (by kernel_rfl) (by kernel_rfl) (fun hfz cx' hx1 hx2 => ?_)
              refine WPO_all tt_ok (by kernel_rfl) ?_
              refine ⟨rfl, (hfz.fnds [3, 2, 0, 1] (by kernel_rfl) ⟨by kernel_rfl, by kernel_rfl, by kernel_rfl, by kernel_rfl, trivial⟩ (by kernel_rfl)), ?_⟩
              refine H_run tt_ok [7] (f' := 5) (by kernel_rfl) (by kernel_rfl) (by kernel_rfl) ?_
              refine H_step 8 (by kernel_rfl) (by kernel_rfl) (fun hfz cx' hx1 hx2 => ?_)
              refine LIT tt_ok (by kernel_rfl) ?_
              refine LITSL 9 3 1 1 [.int .i64 (b.loads.getD k1 zLoad).w.lo] [(b.loads.getD k1 zLoad).w.lo] encI 0 (by kernel_rfl) rfl (fun _ => rfl) (fun n => rfl) ?_
              refine WPO_end (by kernel_rfl) ⟨rfl, (hfz.fnds [3, 2, 0, 1] (by kernel_rfl) ⟨by kernel_rfl, by kernel_rfl, by kernel_rfl, by kernel_rfl, trivial⟩ (by kernel_rfl)), ?_⟩
              refine H_step 9 (by kernel_rfl) (by kernel_rfl) (fun hfz cx' hx1 hx2 => ?_)
              refine APP tt_ok (.s (.ref 7)) (.s (.ref 9)) 33 3 (some 29) 1 v1_2 ([(b.loads.getD k1 zLoad).w.lo]) encI 0 (by kernel_rfl) (by kernel_rfl) (by kernel_rfl) (by kernel_rfl) (.inr (.inl ⟨7, rfl, (by kernel_rfl)⟩)) (.inr ⟨9, .own, rfl, (by kernel_rfl), (by simp only [List.length_cons, List.length_nil]; omega)⟩) (by simp) (fun y => rfl) (fun y => List.all_eq_true.1 rfl) (fun i hi => (by have hby : (tyL tt 3).map (·.bytes) = some 8 := (by kernel_rfl); rw [hi] at hby; simp only [Option.map_some, Option.some.injEq] at hby; rw [hby]; simp only [List.length_append, List.length_cons, List.length_nil]; omega)) ?_
              refine WPO_end (by kernel_rfl) ⟨rfl, (hfz.fnds [3, 2, 0, 1] (by kernel_rfl) ⟨by kernel_rfl, by kernel_rfl, by kernel_rfl, by kernel_rfl, trivial⟩ (by kernel_rfl)), ?_⟩
              refine H_step 19 (by kernel_rfl) (by kernel_rfl) (fun hfz cx' hx1 hx2 => ?_)
              refine APP tt_ok (.s (.ref 6)) (.s (.ref 8)) 33 3 (some 39) 1 v1_1 ([(b.loads.getD k1 zLoad).w.hi]) encI 0 (by kernel_rfl) (by kernel_rfl) (by kernel_rfl) (by kernel_rfl) (.inr (.inl ⟨6, rfl, (by kernel_rfl)⟩)) (.inr ⟨8, .own, rfl, (by kernel_rfl), (by simp only [List.length_cons, List.length_nil]; omega)⟩) (by simp) (fun y => rfl) (fun y => List.all_eq_true.1 rfl) (fun i hi => (by have hby : (tyL tt 3).map (·.bytes) = some 8 := (by kernel_rfl); rw [hi] at hby; simp only [Option.map_some, Option.some.injEq] at hby; rw [hby]; simp only [List.length_append, List.length_cons, List.length_nil]; omega)) ?_
              refine WPO_end (by kernel_rfl) ⟨rfl, (hfz.fnds [3, 2, 0, 1] (by kernel_rfl) ⟨by kernel_rfl, by kernel_rfl, by kernel_rfl, by kernel_rfl, trivial⟩ (by kernel_rfl)), ?_⟩
              refine H_run tt_ok [20, 21] (f' := 0) (by kernel_rfl) (by kernel_rfl) (by kernel_rfl) ?_
              refine H_done (by kernel_rfl) ?_
              exact ⟨(), Le_ren [(9, 10)] ⟨by kernel_rfl, by kernel_rfl, by kernel_rfl, by kernel_rfl, by kernel_rfl, by kernel_rfl, trivial⟩ ⟨by kernel_rfl, rfl, by kernel_rfl, by kernel_rfl, rfl, by kernel_rfl, by kernel_rfl, rfl, by kernel_rfl, by kernel_rfl, rfl, by kernel_rfl, by kernel_rfl, rfl, by kernel_rfl, by kernel_rfl, rfl, by kernel_rfl, trivial⟩ (by kernel_rfl) (by kernel_rfl) (rnm_id (m := 2) (by kernel_rfl)) (by show 2 ≤ 12; decide) (by kernel_rfl) (by kernel_rfl)⟩
      · refine WPO_all tt_ok (by kernel_rfl) ?_
        refine ⟨rfl, (hfz.fnds [3, 2, 0, 1] (by kernel_rfl) ⟨by kernel_rfl, by kernel_rfl, by kernel_rfl, by kernel_rfl, trivial⟩ (by kernel_rfl)), ?_⟩
        refine H_two 5 16 (by kernel_rfl) (by kernel_rfl) (by kernel_rfl) (fun hfz cx' hx1 hx2 => ?_) (fun hfz cx' hx1 hx2 => ?_)
        · refine WPO_all tt_ok (by kernel_rfl) ?_
          refine ⟨rfl, (hfz.fnds [3, 2, 0, 1] (by kernel_rfl) ⟨by kernel_rfl, by kernel_rfl, by kernel_rfl, by kernel_rfl, trivial⟩ (by kernel_rfl)), ?_⟩
          refine H_two 6 16 (by kernel_rfl) (by kernel_rfl) (by kernel_rfl) (fun hfz cx' hx1 hx2 => ?_) (fun hfz cx' hx1 hx2 => ?_)
          · refine WPO_all tt_ok (by kernel_rfl) ?_
            refine ⟨rfl, (hfz.fnds [3, 2, 0, 1] (by kernel_rfl) ⟨by kernel_rfl, by kernel_rfl, by kernel_rfl, by kernel_rfl, trivial⟩ (by kernel_rfl)), ?_⟩
            refine H_run tt_ok [7] (f' := 8) (by kernel_rfl) (by kernel_rfl) (by kernel_rfl) ?_
            refine H_two 8 16 (by kernel_rfl) (by kernel_rfl) (by kernel_rfl) (fun hfz cx' hx1 hx2 => ?_) (fun hfz cx' hx1 hx2 => ?_)
            · refine LIT tt_ok (by kernel_rfl) ?_
              refine LITSL 8 3 1 1 [.int .i64 (b.loads.getD k1 zLoad).w.lo] [(b.loads.getD k1 zLoad).w.lo] encI 0 (by kernel_rfl) rfl (fun _ => rfl) (fun n => rfl) ?_
              refine WPO_end (by kernel_rfl) ⟨rfl, (hfz.fnds [3, 2, 0, 1] (by kernel_rfl) ⟨by kernel_rfl, by kernel_rfl, by kernel_rfl, by kernel_rfl, trivial⟩ (by kernel_rfl)), ?_⟩
              refine H_two 9 16 (by kernel_rfl) (by kernel_rfl) (by kernel_rfl) (fun hfz cx' hx1 hx2 => ?_) (fun hfz cx' hx1 hx2 => ?_)
              · refine APP tt_ok (.s (.ref 7)) (.s (.ref 8)) 33 3 (some 29) 1 v1_2 ([(b.loads.getD k1 zLoad).w.lo]) encI 0 (by kernel_rfl) (by kernel_rfl) (by kernel_rfl) (by kernel_rfl) (.inr (.inl ⟨7, rfl, (by kernel_rfl)⟩)) (.inr ⟨8, .own, rfl, (by kernel_rfl), (by simp only [List.length_cons, List.length_nil]; omega)⟩) (by simp) (fun y => rfl) (fun y => List.all_eq_true.1 rfl) (fun i hi => (by have hby : (tyL tt 3).map (·.bytes) = some 8 := (by kernel_rfl); rw [hi] at hby; simp only [Option.map_some, Option.some.injEq] at hby; rw [hby]; simp only [List.length_append, List.length_cons, List.length_nil]; omega)) ?_
                refine WPO_end (by kernel_rfl) ⟨rfl, (hfz.fnds [3, 2, 0, 1] (by kernel_rfl) ⟨by kernel_rfl, by kernel_rfl, by kernel_rfl, by kernel_rfl, trivial⟩ (by kernel_rfl)), ?_⟩
                refine H_step 16 (by kernel_rfl) (by kernel_rfl) (fun hfz cx' hx1 hx2 => ?_)
                refine WPO_all tt_ok (by kernel_rfl) ?_
                refine ⟨rfl, (hfz.fnds [3, 2, 0, 1] (by kernel_rfl) ⟨by kernel_rfl, by kernel_rfl, by kernel_rfl, by kernel_rfl, trivial⟩ (by kernel_rfl)), ?_⟩
                refine H_run tt_ok [17] (f' := 4) (by kernel_rfl) (by kernel_rfl) (by kernel_rfl) ?_
                refine H_step 18 (by kernel_rfl) (by kernel_rfl) (fun hfz cx' hx1 hx2 => ?_)
                refine LIT tt_ok (by kernel_rfl) ?_
                refine LITSL 10 3 1 1 [.int .i64 (b.loads.getD k1 zLoad).w.hi] [(b.loads.getD k1 zLoad).w.hi] encI 0 (by kernel_rfl) rfl (fun _ => rfl) (fun n => rfl) ?_
                refine WPO_end (by kernel_rfl) ⟨rfl, (hfz.fnds [3, 2, 0, 1] (by kernel_rfl) ⟨by kernel_rfl, by kernel_rfl, by kernel_rfl, by kernel_rfl, trivial⟩ (by kernel_rfl)), ?_⟩
                refine H_step 19 (by kernel_rfl) (by kernel_rfl) (fun hfz cx' hx1 hx2 => ?_)
                refine APP tt_ok (.s (.ref 6)) (.s (.ref 10)) 33 3 (some 39) 1 v1_1 ([(b.loads.getD k1 zLoad).w.hi]) encI 0 (by kernel_rfl) (by kernel_rfl) (by kernel_rfl) (by kernel_rfl) (.inr (.inl ⟨6, rfl, (by kernel_rfl)⟩)) (.inr ⟨10, .own, rfl, (by kernel_rfl), (by simp only [List.length_cons, List.length_nil]; omega)⟩) (by simp) (fun y => rfl) (fun y => List.all_eq_true.1 rfl) (fun i hi => (by have hby : (tyL tt 3).map (·.bytes) = some 8 := (by kernel_rfl); rw [hi] at hby; simp only [Option.map_some, Option.some.injEq] at hby; rw [hby]; simp only [List.length_append, List.length_cons, List.length_nil]; omega)) ?_
                refine WPO_end (by kernel_rfl) ⟨rfl, (hfz.fnds [3, 2, 0, 1] (by kernel_rfl) ⟨by kernel_rfl, by kernel_rfl, by kernel_rfl, by kernel_rfl, trivial⟩ (by kernel_rfl)), ?_⟩
                refine H_run tt_ok [20, 21] (f' := 0) (by kernel_rfl) (by kernel_rfl) (by kernel_rfl) ?_
                refine H_done (by kernel_rfl) ?_
                exact ⟨(), Le_sel (ts := [6, 5, 7, 4, 2, 1]) (ids := [11, 9, 3, 2, 0, 1]) (nx := 12) (by kernel_rfl)⟩
              · refine WPO_all tt_ok (by kernel_rfl) ?_
                refine ⟨rfl, (hfz.fnds [3, 2, 0, 1] (by kernel_rfl) ⟨by kernel_rfl, by kernel_rfl, by kernel_rfl, by kernel_rfl, trivial⟩ (by kernel_rfl)), ?_⟩
                refine H_run tt_ok [17] (f' := 5) (by kernel_rfl) (by kernel_rfl) (by kernel_rfl) ?_
                refine H_two 9 18 (by kernel_rfl) (by kernel_rfl) (by kernel_rfl) (fun hfz cx' hx1 hx2 => ?_) (fun hfz cx' hx1 hx2 => ?_)
                · refine APP tt_ok (.s (.ref 7)) (.s (.ref 8)) 33 3 (some 29) 1 v1_2 ([(b.loads.getD k1 zLoad).w.lo]) encI 0 (by kernel_rfl) (by kernel_rfl) (by kernel_rfl) (by kernel_rfl) (.inr (.inl ⟨7, rfl, (by kernel_rfl)⟩)) (.inr ⟨8, .own, rfl, (by kernel_rfl), (by simp only [List.length_cons, List.length_nil]; omega)⟩) (by simp) (fun y => rfl) (fun y => List.all_eq_true.1 rfl) (fun i hi => (by have hby : (tyL tt 3).map (·.bytes) = some 8 := (by kernel_rfl); rw [hi] at hby; simp only [Option.map_some, Option.some.injEq] at hby; rw [hby]; simp only [List.length_append, List.length_cons, List.length_nil]; omega)) ?_
                  refine WPO_end (by kernel_rfl) ⟨rfl, (hfz.fnds [3, 2, 0, 1] (by kernel_rfl) ⟨by kernel_rfl, by kernel_rfl, by kernel_rfl, by kernel_rfl, trivial⟩ (by kernel_rfl)), ?_⟩
                  refine H_step 18 (by kernel_rfl) (by kernel_rfl) (fun hfz cx' hx1 hx2 => ?_)
                  refine LIT tt_ok (by kernel_rfl) ?_
                  refine LITSL 10 3 1 1 [.int .i64 (b.loads.getD k1 zLoad).w.hi] [(b.loads.getD k1 zLoad).w.hi] encI 0 (by kernel_rfl) rfl (fun _ => rfl) (fun n => rfl) ?_
                  refine WPO_end (by kernel_rfl) ⟨rfl, (hfz.fnds [3, 2, 0, 1] (by kernel_rfl) ⟨by kernel_rfl, by kernel_rfl, by kernel_rfl, by kernel_rfl, trivial⟩ (by kernel_rfl)), ?_⟩
                  refine H_step 19 (by kernel_rfl) (by kernel_rfl) (fun hfz cx' hx1 hx2 => ?_)
                  refine APP tt_ok (.s (.ref 6)) (.s (.ref 10)) 33 3 (some 39) 1 v1_1 ([(b.loads.getD k1 zLoad).w.hi]) encI 0 (by kernel_rfl) (by kernel_rfl) (by kernel_rfl) (by kernel_rfl) (.inr (.inl ⟨6, rfl, (by kernel_rfl)⟩)) (.inr ⟨10, .own, rfl, (by kernel_rfl), (by simp only [List.length_cons, List.length_nil]; omega)⟩) (by simp) (fun y => rfl) (fun y => List.all_eq_true.1 rfl) (fun i hi => (by have hby : (tyL tt 3).map (·.bytes) = some 8 := (by kernel_rfl); rw [hi] at hby; simp only [Option.map_some, Option.some.injEq] at hby; rw [hby]; simp only [List.length_append, List.length_cons, List.length_nil]; omega)) ?_
                  refine WPO_end (by kernel_rfl) ⟨rfl, (hfz.fnds [3, 2, 0, 1] (by kernel_rfl) ⟨by kernel_rfl, by kernel_rfl, by kernel_rfl, by kernel_rfl, trivial⟩ (by kernel_rfl)), ?_⟩
                  refine H_run tt_ok [20, 21] (f' := 0) (by kernel_rfl) (by kernel_rfl) (by kernel_rfl) ?_
                  refine H_done (by kernel_rfl) ?_
                  exact ⟨(), Le_sel (ts := [6, 5, 7, 4, 2, 1]) (ids := [11, 9, 3, 2, 0, 1]) (nx := 12) (by kernel_rfl)⟩
                · refine LIT tt_ok (by kernel_rfl) ?_
                  refine LITSL 9 3 1 1 [.int .i64 (b.loads.getD k1 zLoad).w.hi] [(b.loads.getD k1 zLoad).w.hi] encI 0 (by kernel_rfl) rfl (fun _ => rfl) (fun n => rfl) ?_
                  refine WPO_end (by kernel_rfl) ⟨rfl, (hfz.fnds [3, 2, 0, 1] (by kernel_rfl) ⟨by kernel_rfl, by kernel_rfl, by kernel_rfl, by kernel_rfl, trivial⟩ (by kernel_rfl)), ?_⟩
                  refine H_step 9 (by kernel_rfl) (by kernel_rfl) (fun hfz cx' hx1 hx2 => ?_)
                  refine APP tt_ok (.s (.ref 7)) (.s (.ref 8)) 33 3 (some 29) 1 v1_2 ([(b.loads.getD k1 zLoad).w.lo]) encI 0 (by kernel_rfl) (by kernel_rfl) (by kernel_rfl) (by kernel_rfl) (.inr (.inl ⟨7, rfl, (by kernel_rfl)⟩)) (.inr ⟨8, .own, rfl, (by kernel_rfl), (by simp only [List.length_cons, List.length_nil]; omega)⟩) (by simp) (fun y => rfl) (fun y => List.all_eq_true.1 rfl) (fun i hi => (by have hby : (tyL tt 3).map (·.bytes) = some 8 := (by kernel_rfl); rw [hi] at hby; simp only [Option.map_some, Option.some.injEq] at hby; rw [hby]; simp only [List.length_append, List.length_cons, List.length_nil]; omega)) ?_
                  refine WPO_end (by kernel_rfl) ⟨rfl, (hfz.fnds [3, 2, 0, 1] (by kernel_rfl) ⟨by kernel_rfl, by kernel_rfl, by kernel_rfl, by kernel_rfl, trivial⟩ (by kernel_rfl)), ?_⟩
                  refine H_step 19 (by kernel_rfl) (by kernel_rfl) (fun hfz cx' hx1 hx2 => ?_)
                  refine APP tt_ok (.s (.ref 6)) (.s (.ref 9)) 33 3 (some 39) 1 v1_1 ([(b.loads.getD k1 zLoad).w.hi]) encI 0 (by kernel_rfl) (by kernel_rfl) (by kernel_rfl) (by kernel_rfl) (.inr (.inl ⟨6, rfl, (by kernel_rfl)⟩)) (.inr ⟨9, .own, rfl, (by kernel_rfl), (by simp only [List.length_cons, List.length_nil]; omega)⟩) (by simp) (fun y => rfl) (fun y => List.all_eq_true.1 rfl) (fun i hi => (by have hby : (tyL tt 3).map (·.bytes) = some 8 := (by kernel_rfl); rw [hi] at hby; simp only [Option.map_some, Option.some.injEq] at hby; rw [hby]; simp only [List.length_append, List.length_cons, List.length_nil]; omega)) ?_
                  refine WPO_end (by kernel_rfl) ⟨rfl, (hfz.fnds [3, 2, 0, 1] (by kernel_rfl) ⟨by kernel_rfl, by kernel_rfl, by kernel_rfl, by kernel_rfl, trivial⟩ (by kernel_rfl)), ?_⟩
                  refine H_run tt_ok [20, 21] (f' := 0) (by kernel_rfl) (by kernel_rfl) (by kernel_rfl) ?_
                  refine H_done (by kernel_rfl) ?_
                  exact ⟨(), Le_ren [(9, 10)] ⟨by kernel_rfl, by kernel_rfl, by kernel_rfl, by kernel_rfl, by kernel_rfl, by kernel_rfl, trivial⟩ ⟨by kernel_rfl, rfl, by kernel_rfl, by kernel_rfl, rfl, by kernel_rfl, by kernel_rfl, rfl, by kernel_rfl, by kernel_rfl, rfl, by kernel_rfl, by kernel_rfl, rfl, by kernel_rfl, by kernel_rfl, rfl, by kernel_rfl, trivial⟩ (by kernel_rfl) (by kernel_rfl) (rnm_id (m := 2) (by kernel_rfl)) (by show 2 ≤ 12; decide) (by kernel_rfl) (by kernel_rfl)⟩
            · refine WPO_all tt_ok (by kernel_rfl) ?_
              refine ⟨rfl, (hfz.fnds [3, 2, 0, 1] (by kernel_rfl) ⟨by kernel_rfl, by kernel_rfl, by kernel_rfl, by kernel_rfl, trivial⟩ (by kernel_rfl)), ?_⟩
              refine H_run tt_ok [17] (f' := 6) (by kernel_rfl) (by kernel_rfl) (by kernel_rfl) ?_
              refine H_two 8 18 (by kernel_rfl) (by kernel_rfl) (by kernel_rfl) (fun hfz cx' hx1 hx2 => ?_) (fun hfz cx' hx1 hx2 => ?_)
              · refine LIT tt_ok (by kernel_rfl) ?_
                refine LITSL 8 3 1 1 [.int .i64 (b.loads.getD k1 zLoad).w.lo] [(b.loads.getD k1 zLoad).w.lo] encI 0 (by kernel_rfl) rfl (fun _ => rfl) (fun n => rfl) ?_
                refine WPO_end (by kernel_rfl) ⟨rfl, (hfz.fnds [3, 2, 0, 1] (by kernel_rfl) ⟨by kernel_rfl, by kernel_rfl, by kernel_rfl, by kernel_rfl, trivial⟩ (by kernel_rfl)), ?_⟩
                refine H_two 9 18 (by kernel_rfl) (by kernel_rfl) (by kernel_rfl) (fun hfz cx' hx1 hx2 => ?_) (fun hfz cx' hx1 hx2 => ?_)
                · refine APP tt_ok (.s (.ref 7)) (.s (.ref 8)) 33 3 (some 29) 1 v1_2 ([(b.loads.getD k1 zLoad).w.lo]) encI 0 (by kernel_rfl) (by kernel_rfl) (by kernel_rfl) (by kernel_rfl) (.inr (.inl ⟨7, rfl, (by kernel_rfl)⟩)) (.inr ⟨8, .own, rfl, (by kernel_rfl), (by simp only [List.length_cons, List.length_nil]; omega)⟩) (by simp) (fun y => rfl) (fun y => List.all_eq_true.1 rfl) (fun i hi => (by have hby : (tyL tt 3).map (·.bytes) = some 8 := (by kernel_rfl); rw [hi] at hby; simp only [Option.map_some, Option.some.injEq] at hby; rw [hby]; simp only [List.length_append, List.length_cons, List.length_nil]; omega)) ?_
                  refine WPO_end (by kernel_rfl) ⟨rfl, (hfz.fnds [3, 2, 0, 1] (by kernel_rfl) ⟨by kernel_rfl, by kernel_rfl, by kernel_rfl, by kernel_rfl, trivial⟩ (by kernel_rfl)), ?_⟩
                  refine H_step 18 (by kernel_rfl) (by kernel_rfl) (fun hfz cx' hx1 hx2 => ?_)
                  refine LIT tt_ok (by kernel_rfl) ?_
                  refine LITSL 10 3 1 1 [.int .i64 (b.loads.getD k1 zLoad).w.hi] [(b.loads.getD k1 zLoad).w.hi] encI 0 (by kernel_rfl) rfl (fun _ => rfl) (fun n => rfl) ?_
                  refine WPO_end (by kernel_rfl) ⟨rfl, (hfz.fnds [3, 2, 0, 1] (by kernel_rfl) ⟨by kernel_rfl, by kernel_rfl, by kernel_rfl, by kernel_rfl, trivial⟩ (by kernel_rfl)), ?_⟩
                  refine H_step 19 (by kernel_rfl) (by kernel_rfl) (fun hfz cx' hx1 hx2 => ?_)
                  refine APP tt_ok (.s (.ref 6)) (.s (.ref 10)) 33 3 (some 39) 1 v1_1 ([(b.loads.getD k1 zLoad).w.hi]) encI 0 (by kernel_rfl) (by kernel_rfl) (by kernel_rfl) (by kernel_rfl) (.inr (.inl ⟨6, rfl, (by kernel_rfl)⟩)) (.inr ⟨10, .own, rfl, (by kernel_rfl), (by simp only [List.length_cons, List.length_nil]; omega)⟩) (by simp) (fun y => rfl) (fun y => List.all_eq_true.1 rfl) (fun i hi => (by have hby : (tyL tt 3).map (·.bytes) = some 8 := (by kernel_rfl); rw [hi] at hby; simp only [Option.map_some, Option.some.injEq] at hby; rw [hby]; simp only [List.length_append, List.length_cons, List.length_nil]; omega)) ?_
                  refine WPO_end (by kernel_rfl) ⟨rfl, (hfz.fnds [3, 2, 0, 1] (by kernel_rfl) ⟨by kernel_rfl, by kernel_rfl, by kernel_rfl, by kernel_rfl, trivial⟩ (by kernel_rfl)), ?_⟩
                  refine H_run tt_ok [20, 21] (f' := 0) (by kernel_rfl) (by kernel_rfl) (by kernel_rfl) ?_
                  refine H_done (by kernel_rfl) ?_
                  exact ⟨(), Le_sel (ts := [6, 5, 7, 4, 2, 1]) (ids := [11, 9, 3, 2, 0, 1]) (nx := 12) (by kernel_rfl)⟩
                · refine LIT tt_ok (by kernel_rfl) ?_
                  refine LITSL 9 3 1 1 [.int .i64 (b.loads.getD k1 zLoad).w.hi] [(b.loads.getD k1 zLoad).w.hi] encI 0 (by kernel_rfl) rfl (fun _ => rfl) (fun n => rfl) ?_
                  refine WPO_end (by kernel_rfl) ⟨rfl, (hfz.fnds [3, 2, 0, 1] (by kernel_rfl) ⟨by kernel_rfl, by kernel_rfl, by kernel_rfl, by kernel_rfl, trivial⟩ (by kernel_rfl)), ?_⟩
                  refine H_step 9 (by kernel_rfl) (by kernel_rfl) (fun hfz cx' hx1 hx2 => ?_)
                  refine APP tt_ok (.s (.ref 7)) (.s (.ref 8)) 33 3 (some 29) 1 v1_2 ([(b.loads.getD k1 zLoad).w.lo]) encI 0 (by kernel_rfl) (by kernel_rfl) (by kernel_rfl) (by kernel_rfl) (.inr (.inl ⟨7, rfl, (by kernel_rfl)⟩)) (.inr ⟨8, .own, rfl, (by kernel_rfl), (by simp only [List.length_cons, List.length_nil]; omega)⟩) (by simp) (fun y => rfl) (fun y => List.all_eq_true.1 rfl) (fun i hi => (by have hby : (tyL tt 3).map (·.bytes) = some 8 := (by kernel_rfl); rw [hi] at hby; simp only [Option.map_some, Option.some.injEq] at hby; rw [hby]; simp only [List.length_append, List.length_cons, List.length_nil]; omega)) ?_
                  refine WPO_end (by kernel_rfl) ⟨rfl, (hfz.fnds [3, 2, 0, 1] (by kernel_rfl) ⟨by kernel_rfl, by kernel_rfl, by kernel_rfl, by kernel_rfl, trivial⟩ (by kernel_rfl)), ?_⟩
                  refine H_step 19 (by kernel_rfl) (by kernel_rfl) (fun hfz cx' hx1 hx2 => ?_)
                  refine APP tt_ok (.s (.ref 6)) (.s (.ref 9)) 33 3 (some 39) 1 v1_1 ([(b.loads.getD k1 zLoad).w.hi]) encI 0 (by kernel_rfl) (by kernel_rfl) (by kernel_rfl) (by kernel_rfl) (.inr (.inl ⟨6, rfl, (by kernel_rfl)⟩)) (.inr ⟨9, .own, rfl, (by kernel_rfl), (by simp only [List.length_cons, List.length_nil]; omega)⟩) (by simp) (fun y => rfl) (fun y => List.all_eq_true.1 rfl) (fun i hi => (by have hby : (tyL tt 3).map (·.bytes) = some 8 := (by kernel_rfl); rw [hi] at hby; simp only [Option.map_some, Option.some.injEq] at hby; rw [hby]; simp only [List.length_append, List.length_cons, List.length_nil]; omega)) ?_
                  refine WPO_end (by kernel_rfl) ⟨rfl, (hfz.fnds [3, 2, 0, 1] (by kernel_rfl) ⟨by kernel_rfl, by kernel_rfl, by kernel_rfl, by kernel_rfl, trivial⟩ (by kernel_rfl)), ?_⟩
                  refine H_run tt_ok [20, 21] (f' := 0) (by kernel_rfl) (by kernel_rfl) (by kernel_rfl) ?_
                  refine H_done (by kernel_rfl) ?_
                  exact ⟨(), Le_ren [(9, 10)] ⟨by kernel_rfl, by kernel_rfl, by kernel_rfl, by kernel_rfl, by kernel_rfl, by kernel_rfl, trivial⟩ ⟨by kernel_rfl, rfl, by kernel_rfl, by kernel_rfl, rfl, by kernel_rfl, by kernel_rfl, rfl, by kernel_rfl, by kernel_rfl, rfl, by kernel_rfl, by kernel_rfl, rfl, by kernel_rfl, by kernel_rfl, rfl, by kernel_rfl, trivial⟩ (by kernel_rfl) (by kernel_rfl) (rnm_id (m := 2) (by kernel_rfl)) (by show 2 ≤ 12; decide) (by kernel_rfl) (by kernel_rfl)⟩
              · refine LIT tt_ok (by kernel_rfl) ?_
                refine LITSL 8 3 1 1 [.int .i64 (b.loads.getD k1 zLoad).w.hi] [(b.loads.getD k1 zLoad).w.hi] encI 0 (by kernel_rfl) rfl (fun _ => rfl) (fun n => rfl) ?_
                refine WPO_end (by kernel_rfl) ⟨rfl, (hfz.fnds [3, 2, 0, 1] (by kernel_rfl) ⟨by kernel_rfl, by kernel_rfl, by kernel_rfl, by kernel_rfl, trivial⟩ (by kernel_rfl)), ?_⟩
                refine H_step 8 (by kernel_rfl) (by kernel_rfl) (fun hfz cx' hx1 hx2 => ?_)
                refine LIT tt_ok (by kernel_rfl) ?_
                refine LITSL 9 3 1 1 [.int .i64 (b.loads.getD k1 zLoad).w.lo] [(b.loads.getD k1 zLoad).w.lo] encI 0 (by kernel_rfl) rfl (fun _ => rfl) (fun n => rfl) ?_
                refine WPO_end (by kernel_rfl) ⟨rfl, (hfz.fnds [3, 2, 0, 1] (by kernel_rfl) ⟨by kernel_rfl, by kernel_rfl, by kernel_rfl, by kernel_rfl, trivial⟩ (by kernel_rfl)), ?_⟩
                refine H_step 9 (by kernel_rfl) (by kernel_rfl) (fun hfz cx' hx1 hx2 => ?_)
                refine APP tt_ok (.s (.ref 7)) (.s (.ref 9)) 33 3 (some 29) 1 v1_2 ([(b.loads.getD k1 zLoad).w.lo]) encI 0 (by kernel_rfl) (by kernel_rfl) (by kernel_rfl) (by kernel_rfl) (.inr (.inl ⟨7, rfl, (by kernel_rfl)⟩)) (.inr ⟨9, .own, rfl, (by kernel_rfl), (by simp only [List.length_cons, List.length_nil]; omega)⟩) (by simp) (fun y => rfl) (fun y => List.all_eq_true.1 rfl) (fun i hi => (by have hby : (tyL tt 3).map (·.bytes) = some 8 := (by kernel_rfl); rw [hi] at hby; simp only [Option.map_some, Option.some.injEq] at hby; rw [hby]; simp only [List.length_append, List.length_cons, List.length_nil]; omega)) ?_
                refine WPO_end (by kernel_rfl) ⟨rfl, (hfz.fnds [3, 2, 0, 1] (by kernel_rfl) ⟨by kernel_rfl, by kernel_rfl, by kernel_rfl, by kernel_rfl, trivial⟩ (by kernel_rfl)), ?_⟩
                refine H_step 19 (by kernel_rfl) (by kernel_rfl) (fun hfz cx' hx1 hx2 => ?_)
                refine APP tt_ok (.s (.ref 6)) (.s (.ref 8)) 33 3 (some 39) 1 v1_1 ([(b.loads.getD k1 zLoad).w.hi]) encI 0 (by kernel_rfl) (by kernel_rfl) (by kernel_rfl) (by kernel_rfl) (.inr (.inl ⟨6, rfl, (by kernel_rfl)⟩)) (.inr ⟨8, .own, rfl, (by kernel_rfl), (by simp only [List.length_cons, List.length_nil]; omega)⟩) (by simp) (fun y => rfl) (fun y => List.all_eq_true.1 rfl) (fun i hi => (by have hby : (tyL tt 3).map (·.bytes) = some 8 := (by kernel_rfl); rw [hi] at hby; simp only [Option.map_some, Option.some.injEq] at hby; rw [hby]; simp only [List.length_append, List.length_cons, List.length_nil]; omega)) ?_
                refine WPO_end (by kernel_rfl) ⟨rfl, (hfz.fnds [3, 2, 0, 1] (by kernel_rfl) ⟨by kernel_rfl, by kernel_rfl, by kernel_rfl, by kernel_rfl, trivial⟩ (by kernel_rfl)), ?_⟩
                refine H_run tt_ok [20, 21] (f' := 0) (by kernel_rfl) (by kernel_rfl) (by kernel_rfl) ?_
                refine H_done (by kernel_rfl) ?_
                exact ⟨(), Le_ren [(9, 10)] ⟨by kernel_rfl, by kernel_rfl, by kernel_rfl, by kernel_rfl, by kernel_rfl, by kernel_rfl, trivial⟩ ⟨by kernel_rfl, rfl, by kernel_rfl, by kernel_rfl, rfl, by kernel_rfl, by kernel_rfl, rfl, by kernel_rfl, by kernel_rfl, rfl, by kernel_rfl, by kernel_rfl, rfl, by kernel_rfl, by kernel_rfl, rfl, by kernel_rfl, trivial⟩ (by kernel_rfl) (by kernel_rfl) (rnm_id (m := 2) (by kernel_rfl)) (by show 2 ≤ 12; decide) (by kernel_rfl) (by kernel_rfl)⟩
          · refine WPO_all tt_ok (by kernel_rfl) ?_
            refine ⟨rfl, (hfz.fnds [3, 2, 0, 1] (by kernel_rfl) ⟨by kernel_rfl, by kernel_rfl, by kernel_rfl, by kernel_rfl, trivial⟩ (by kernel_rfl)), ?_⟩
            refine H_run tt_ok [17] (f' := 8) (by kernel_rfl) (by kernel_rfl) (by kernel_rfl) ?_
            refine H_two 6 18 (by kernel_rfl) (by kernel_rfl) (by kernel_rfl) (fun hfz cx' hx1 hx2 => ?_) (fun hfz cx' hx1 hx2 => ?_)
            · refine WPO_all tt_ok (by kernel_rfl) ?_
              refine ⟨rfl, (hfz.fnds [3, 2, 0, 1] (by kernel_rfl) ⟨by kernel_rfl, by kernel_rfl, by kernel_rfl, by kernel_rfl, trivial⟩ (by kernel_rfl)), ?_⟩
              refine H_run tt_ok [7] (f' := 6) (by kernel_rfl) (by kernel_rfl) (by kernel_rfl) ?_
              refine H_two 8 18 (by kernel_rfl) (by kernel_rfl) (by kernel_rfl) (fun hfz cx' hx1 hx2 => ?_) (fun hfz cx' hx1 hx2 => ?_)
              · refine LIT tt_ok (by kernel_rfl) ?_
                refine LITSL 8 3 1 1 [.int .i64 (b.loads.getD k1 zLoad).w.lo] [(b.loads.getD k1 zLoad).w.lo] encI 0 (by kernel_rfl) rfl (fun _ => rfl) (fun n => rfl) ?_
                refine WPO_end (by kernel_rfl) ⟨rfl, (hfz.fnds [3, 2, 0, 1] (by kernel_rfl) ⟨by kernel_rfl, by kernel_rfl, by kernel_rfl, by kernel_rfl, trivial⟩ (by kernel_rfl)), ?_⟩
                refine H_two 9 18 (by kernel_rfl) (by kernel_rfl) (by kernel_rfl) (fun hfz cx' hx1 hx2 => ?_) (fun hfz cx' hx1 hx2 => ?_)
                · refine APP tt_ok (.s (.ref 7)) (.s (.ref 8)) 33 3 (some 29) 1 v1_2 ([(b.loads.getD k1 zLoad).w.lo]) encI 0 (by kernel_rfl) (by kernel_rfl) (by kernel_rfl) (by kernel_rfl) (.inr (.inl ⟨7, rfl, (by kernel_rfl)⟩)) (.inr ⟨8, .own, rfl, (by kernel_rfl), (by simp only [List.length_cons, List.length_nil]; omega)⟩) (by simp) (fun y => rfl) (fun y => List.all_eq_true.1 rfl) (fun i hi => (by have hby : (tyL tt 3).map (·.bytes) = some 8 := (by kernel_rfl); rw [hi] at hby; simp only [Option.map_some, Option.some.injEq] at hby; rw [hby]; simp only [List.length_append, List.length_cons, List.length_nil]; omega)) ?_
                  refine WPO_end (by kernel_rfl) ⟨rfl, (hfz.fnds [3, 2, 0, 1] (by kernel_rfl) ⟨by kernel_rfl, by kernel_rfl, by kernel_rfl, by kernel_rfl, trivial⟩ (by kernel_rfl)), ?_⟩
                  refine H_step 18 (by kernel_rfl) (by kernel_rfl) (fun hfz cx' hx1 hx2 => ?_)
                  refine LIT tt_ok (by kernel_rfl) ?_
                  refine LITSL 10 3 1 1 [.int .i64 (b.loads.getD k1 zLoad).w.hi] [(b.loads.getD k1 zLoad).w.hi] encI 0 (by kernel_rfl) rfl (fun _ => rfl) (fun n => rfl) ?_
                  refine WPO_end (by kernel_rfl) ⟨rfl, (hfz.fnds [3, 2, 0, 1] (by kernel_rfl) ⟨by kernel_rfl, by kernel_rfl, by kernel_rfl, by kernel_rfl, trivial⟩ (by kernel_rfl)), ?_⟩
                  refine H_step 19 (by kernel_rfl) (by kernel_rfl) (fun hfz cx' hx1 hx2 => ?_)
                  refine APP tt_ok (.s (.ref 6)) (.s (.ref 10)) 33 3 (some 39) 1 v1_1 ([(b.loads.getD k1 zLoad).w.hi]) encI 0 (by kernel_rfl) (by kernel_rfl) (by kernel_rfl) (by kernel_rfl) (.inr (.inl ⟨6, rfl, (by kernel_rfl)⟩)) (.inr ⟨10, .own, rfl, (by kernel_rfl), (by simp only [List.length_cons, List.length_nil]; omega)⟩) (by simp) (fun y => rfl) (fun y => List.all_eq_true.1 rfl) (fun i hi => (by have hby : (tyL tt 3).map (·.bytes) = some 8 := (by kernel_rfl); rw [hi] at hby; simp only [Option.map_some, Option.some.injEq] at hby; rw [hby]; simp only [List.length_append, List.length_cons, List.length_nil]; omega)) ?_
                  refine WPO_end (by kernel_rfl) ⟨rfl, (hfz.fnds [3, 2, 0, 1] (by kernel_rfl) ⟨by kernel_rfl, by kernel_rfl, by kernel_rfl, by kernel_rfl, trivial⟩ (by kernel_rfl)), ?_⟩
                  refine H_run tt_ok [20, 21] (f' := 0) (by kernel_rfl) (by kernel_rfl) (by kernel_rfl) ?_
                  refine H_done (by kernel_rfl) ?_
                  exact ⟨(), Le_sel (ts := [6, 5, 7, 4, 2, 1]) (ids := [11, 9, 3, 2, 0, 1]) (nx := 12) (by kernel_rfl)⟩
                · refine LIT tt_ok (by kernel_rfl) ?_
                  refine LITSL 9 3 1 1 [.int .i64 (b.loads.getD k1 zLoad).w.hi] [(b.loads.getD k1 zLoad).w.hi] encI 0 (by kernel_rfl) rfl (fun _ => rfl) (fun n => rfl) ?_
                  refine WPO_end (by kernel_rfl) ⟨rfl, (hfz.fnds [3, 2, 0, 1] (by kernel_rfl) ⟨by kernel_rfl, by kernel_rfl, by kernel_rfl, by kernel_rfl, trivial⟩ (by kernel_rfl)), ?_⟩
                  refine H_step 9 (by kernel_rfl) (by kernel_rfl) (fun hfz cx' hx1 hx2 => ?_)
                  refine APP tt_ok (.s (.ref 7)) (.s (.ref 8)) 33 3 (some 29) 1 v1_2 ([(b.loads.getD k1 zLoad).w.lo]) encI 0 (by kernel_rfl) (by kernel_rfl) (by kernel_rfl) (by kernel_rfl) (.inr (.inl ⟨7, rfl, (by kernel_rfl)⟩)) (.inr ⟨8, .own, rfl, (by kernel_rfl), (by simp only [List.length_cons, List.length_nil]; omega)⟩) (by simp) (fun y => rfl) (fun y => List.all_eq_true.1 rfl) (fun i hi => (by have hby : (tyL tt 3).map (·.bytes) = some 8 := (by kernel_rfl); rw [hi] at hby; simp only [Option.map_some, Option.some.injEq] at hby; rw [hby]; simp only [List.length_append, List.length_cons, List.length_nil]; omega)) ?_
                  refine WPO_end (by kernel_rfl) ⟨rfl, (hfz.fnds [3, 2, 0, 1] (by kernel_rfl) ⟨by kernel_rfl, by kernel_rfl, by kernel_rfl, by kernel_rfl, trivial⟩ (by kernel_rfl)), ?_⟩
                  refine H_step 19 (by kernel_rfl) (by kernel_rfl) (fun hfz cx' hx1 hx2 => ?_)
                  refine APP tt_ok (.s (.ref 6)) (.s (.ref 9)) 33 3 (some 39) 1 v1_1 ([(b.loads.getD k1 zLoad).w.hi]) encI 0 (by kernel_rfl) (by kernel_rfl) (by kernel_rfl) (by kernel_rfl) (.inr (.inl ⟨6, rfl, (by kernel_rfl)⟩)) (.inr ⟨9, .own, rfl, (by kernel_rfl), (by simp only [List.length_cons, List.length_nil]; omega)⟩) (by simp) (fun y => rfl) (fun y => List.all_eq_true.1 rfl) (fun i hi => (by have hby : (tyL tt 3).map (·.bytes) = some 8 := (by kernel_rfl); rw [hi] at hby; simp only [Option.map_some, Option.some.injEq] at hby; rw [hby]; simp only [List.length_append, List.length_cons, List.length_nil]; omega)) ?_
                  refine WPO_end (by kernel_rfl) ⟨rfl, (hfz.fnds [3, 2, 0, 1] (by kernel_rfl) ⟨by kernel_rfl, by kernel_rfl, by kernel_rfl, by kernel_rfl, trivial⟩ (by kernel_rfl)), ?_⟩
                  refine H_run tt_ok [20, 21] (f' := 0) (by kernel_rfl) (by kernel_rfl) (by kernel_rfl) ?_
                  refine H_done (by kernel_rfl) ?_
                  exact ⟨(), Le_ren [(9, 10)] ⟨by kernel_rfl, by kernel_rfl, by kernel_rfl, by kernel_rfl, by kernel_rfl, by kernel_rfl, trivial⟩ ⟨by kernel_rfl, rfl, by kernel_rfl, by kernel_rfl, rfl, by kernel_rfl, by kernel_rfl, rfl, by kernel_rfl, by kernel_rfl, rfl, by kernel_rfl, by kernel_rfl, rfl, by kernel_rfl, by kernel_rfl, rfl, by kernel_rfl, trivial⟩ (by kernel_rfl) (by kernel_rfl) (rnm_id (m := 2) (by kernel_rfl)) (by show 2 ≤ 12; decide) (by kernel_rfl) (by kernel_rfl)⟩
              · refine LIT tt_ok (by kernel_rfl) ?_
                refine LITSL 8 3 1 1 [.int .i64 (b.loads.getD k1 zLoad).w.hi] [(b.loads.getD k1 zLoad).w.hi] encI 0 (by kernel_rfl) rfl (fun _ => rfl) (fun n => rfl) ?_
                refine WPO_end (by kernel_rfl) ⟨rfl, (hfz.fnds [3, 2, 0, 1] (by kernel_rfl) ⟨by kernel_rfl, by kernel_rfl, by kernel_rfl, by kernel_rfl, trivial⟩ (by kernel_rfl)), ?_⟩
                refine H_step 8 (by kernel_rfl) (by kernel_rfl) (fun hfz cx' hx1 hx2 => ?_)
                refine LIT tt_ok (by kernel_rfl) ?_
                refine LITSL 9 3 1 1 [.int .i64 (b.loads.getD k1 zLoad).w.lo] [(b.loads.getD k1 zLoad).w.lo] encI 0 (by kernel_rfl) rfl (fun _ => rfl) (fun n => rfl) ?_
                refine WPO_end (by kernel_rfl) ⟨rfl, (hfz.fnds [3, 2, 0, 1] (by kernel_rfl) ⟨by kernel_rfl, by kernel_rfl, by kernel_rfl, by kernel_rfl, trivial⟩ (by kernel_rfl)), ?_⟩
                refine H_step 9 (by kernel_rfl) (by kernel_rfl) (fun hfz cx' hx1 hx2 => ?_)
                refine APP tt_ok (.s (.ref 7)) (.s (.ref 9)) 33 3 (some 29) 1 v1_2 ([(b.loads.getD k1 zLoad).w.lo]) encI 0 (by kernel_rfl) (by kernel_rfl) (by kernel_rfl) (by kernel_rfl) (.inr (.inl ⟨7, rfl, (by kernel_rfl)⟩)) (.inr ⟨9, .own, rfl, (by kernel_rfl), (by simp only [List.length_cons, List.length_nil]; omega)⟩) (by simp) (fun y => rfl) (fun y => List.all_eq_true.1 rfl) (fun i hi => (by have hby : (tyL tt 3).map (·.bytes) = some 8 := (by kernel_rfl); rw [hi] at hby; simp only [Option.map_some, Option.some.injEq] at hby; rw [hby]; simp only [List.length_append, List.length_cons, List.length_nil]; omega)) ?_
                refine WPO_end (by kernel_rfl) ⟨rfl, (hfz.fnds [3, 2, 0, 1] (by kernel_rfl) ⟨by kernel_rfl, by kernel_rfl, by kernel_rfl, by kernel_rfl, trivial⟩ (by kernel_rfl)), ?_⟩
                refine H_step 19 (by kernel_rfl) (by kernel_rfl) (fun hfz cx' hx1 hx2 => ?_)
                refine APP tt_ok (.s (.ref 6)) (.s (.ref 8)) 33 3 (some 39) 1 v1_1 ([(b.loads.getD k1 zLoad).w.hi]) encI 0 (by kernel_rfl) (by kernel_rfl) (by kernel_rfl) (by kernel_rfl) (.inr (.inl ⟨6, rfl, (by kernel_rfl)⟩)) (.inr ⟨8, .own, rfl, (by kernel_rfl), (by simp only [List.length_cons, List.length_nil]; omega)⟩) (by simp) (fun y => rfl) (fun y => List.all_eq_true.1 rfl) (fun i hi => (by have hby : (tyL tt 3).map (·.bytes) = some 8 := (by kernel_rfl); rw [hi] at hby; simp only [Option.map_some, Option.some.injEq] at hby; rw [hby]; simp only [List.length_append, List.length_cons, List.length_nil]; omega)) ?_
                refine WPO_end (by kernel_rfl) ⟨rfl, (hfz.fnds [3, 2, 0, 1] (by kernel_rfl) ⟨by kernel_rfl, by kernel_rfl, by kernel_rfl, by kernel_rfl, trivial⟩ (by kernel_rfl)), ?_⟩
                refine H_run tt_ok [20, 21] (f' := 0) (by kernel_rfl) (by kernel_rfl) (by kernel_rfl) ?_
                refine H_done (by kernel_rfl) ?_
                exact ⟨(), Le_ren [(9, 10)] ⟨by kernel_rfl, by kernel_rfl, by kernel_rfl, by kernel_rfl, by kernel_rfl, by kernel_rfl, trivial⟩ ⟨by kernel_rfl, rfl, by kernel_rfl, by kernel_rfl, rfl, by kernel_rfl, by kernel_rfl, rfl, by kernel_rfl, by kernel_rfl, rfl, by kernel_rfl, by kernel_rfl, rfl, by kernel_rfl, by kernel_rfl, rfl, by kernel_rfl, trivial⟩ (by kernel_rfl) (by kernel_rfl) (rnm_id (m := 2) (by kernel_rfl)) (by show 2 ≤ 12; decide) (by kernel_rfl) (by kernel_rfl)⟩
            · refine LIT tt_ok (by kernel_rfl) ?_
              refine LITSL 8 3 1 1 [.int .i64 (b.loads.getD k1 zLoad).w.hi] [(b.loads.getD k1 zLoad).w.hi] encI 0 (by kernel_rfl) rfl (fun _ => rfl) (fun n => rfl) ?_
              refine WPO_end (by kernel_rfl) ⟨rfl, (hfz.fnds [3, 2, 0, 1] (by kernel_rfl) ⟨by kernel_rfl, by kernel_rfl, by kernel_rfl, by kernel_rfl, trivial⟩ (by kernel_rfl)), ?_⟩
              refine H_step 6 (by kernel_rfl) (by kernel_rfl) (fun hfz cx' hx1 hx2 => ?_)
              refine WPO_all tt_ok (by kernel_rfl) ?_
              refine ⟨rfl, (hfz.fnds [3, 2, 0, 1] (by kernel_rfl) ⟨by kernel_rfl, by kernel_rfl, by kernel_rfl, by kernel_rfl, trivial⟩ (by kernel_rfl)), ?_⟩
              refine H_run tt_ok [7] (f' := 5) (by kernel_rfl) (by kernel_rfl) (by kernel_rfl) ?_
              refine H_step 8 (by kernel_rfl) (by kernel_rfl) (fun hfz cx' hx1 hx2 => ?_)
              refine LIT tt_ok (by kernel_rfl) ?_
              refine LITSL 9 3 1 1 [.int .i64 (b.loads.getD k1 zLoad).w.lo] [(b.loads.getD k1 zLoad).w.lo] encI 0 (by kernel_rfl) rfl (fun _ => rfl) (fun n => rfl) ?_
              refine WPO_end (by kernel_rfl) ⟨rfl, (hfz.fnds [3, 2, 0, 1] (by kernel_rfl) ⟨by kernel_rfl, by kernel_rfl, by kernel_rfl, by kernel_rfl, trivial⟩ (by kernel_rfl)), ?_⟩
              refine H_step 9 (by kernel_rfl) (by kernel_rfl) (fun hfz cx' hx1 hx2 => ?_)
              refine APP tt_ok (.s (.ref 7)) (.s (.ref 9)) 33 3 (some 29) 1 v1_2 ([(b.loads.getD k1 zLoad).w.lo]) encI 0 (by kernel_rfl) (by kernel_rfl) (by kernel_rfl) (by kernel_rfl) (.inr (.inl ⟨7, rfl, (by kernel_rfl)⟩)) (.inr ⟨9, .own, rfl, (by kernel_rfl), (by simp only [List.length_cons, List.length_nil]; omega)⟩) (by simp) (fun y => rfl) (fun y => List.all_eq_true.1 rfl) (fun i hi => (by have hby : (tyL tt 3).map (·.bytes) = some 8 := (by kernel_rfl); rw [hi] at hby; simp only [Option.map_some, Option.some.injEq] at hby; rw [hby]; simp only [List.length_append, List.length_cons, List.length_nil]; omega)) ?_
              refine WPO_end (by kernel_rfl) ⟨rfl, (hfz.fnds [3, 2, 0, 1] (by kernel_rfl) ⟨by kernel_rfl, by kernel_rfl, by kernel_rfl, by kernel_rfl, trivial⟩ (by kernel_rfl)), ?_⟩
              refine H_step 19 (by kernel_rfl) (by kernel_rfl) (fun hfz cx' hx1 hx2 => ?_)
              refine APP tt_ok (.s (.ref 6)) (.s (.ref 8)) 33 3 (some 39) 1 v1_1 ([(b.loads.getD k1 zLoad).w.hi]) encI 0 (by kernel_rfl) (by kernel_rfl) (by kernel_rfl) (by kernel_rfl) (.inr (.inl ⟨6, rfl, (by kernel_rfl)⟩)) (.inr ⟨8, .own, rfl, (by kernel_rfl), (by simp only [List.length_cons, List.length_nil]; omega)⟩) (by simp) (fun y => rfl) (fun y => List.all_eq_true.1 rfl) (fun i hi => (by have hby : (tyL tt 3).map (·.bytes) = some 8 := (by kernel_rfl); rw [hi] at hby; simp only [Option.map_some, Option.some.injEq] at hby; rw [hby]; simp only [List.length_append, List.length_cons, List.length_nil]; omega)) ?_
              refine WPO_end (by kernel_rfl) ⟨rfl, (hfz.fnds [3, 2, 0, 1] (by kernel_rfl) ⟨by kernel_rfl, by kernel_rfl, by kernel_rfl, by kernel_rfl, trivial⟩ (by kernel_rfl)), ?_⟩
              refine H_run tt_ok [20, 21] (f' := 0) (by kernel_rfl) (by kernel_rfl) (by kernel_rfl) ?_
              refine H_done (by kernel_rfl) ?_
              exact ⟨(), Le_ren [(9, 10)] ⟨by kernel_rfl, by kernel_rfl, by kernel_rfl, by kernel_rfl, by kernel_rfl, by kernel_rfl, trivial⟩ ⟨by kernel_rfl, rfl, by kernel_rfl, by kernel_rfl, rfl, by kernel_rfl, by kernel_rfl, rfl, by kernel_rfl, by kernel_rfl, rfl, by kernel_rfl, by kernel_rfl, rfl, by kernel_rfl, by kernel_rfl, rfl, by kernel_rfl, trivial⟩ (by kernel_rfl) (by kernel_rfl) (rnm_id (m := 2) (by kernel_rfl)) (by show 2 ≤ 12; decide) (by kernel_rfl) (by kernel_rfl)⟩
        · refine WPO_all tt_ok (by kernel_rfl) ?_
          refine ⟨rfl, (hfz.fnds [3, 2, 0, 1] (by kernel_rfl) ⟨by kernel_rfl, by kernel_rfl, by kernel_rfl, by kernel_rfl, trivial⟩ (by kernel_rfl)), ?_⟩
          refine H_run tt_ok [17] (f' := 9) (by kernel_rfl) (by kernel_rfl) (by kernel_rfl) ?_
          refine H_two 5 18 (by kernel_rfl) (by kernel_rfl) (by kernel_rfl) (fun hfz cx' hx1 hx2 => ?_) (fun hfz cx' hx1 hx2 => ?_)
          · refine WPO_all tt_ok (by kernel_rfl) ?_
            refine ⟨rfl, (hfz.fnds [3, 2, 0, 1] (by kernel_rfl) ⟨by kernel_rfl, by kernel_rfl, by kernel_rfl, by kernel_rfl, trivial⟩ (by kernel_rfl)), ?_⟩
            refine H_two 6 18 (by kernel_rfl) (by kernel_rfl) (by kernel_rfl) (fun hfz cx' hx1 hx2 => ?_) (fun hfz cx' hx1 hx2 => ?_)
            · refine WPO_all tt_ok (by kernel_rfl) ?_
              refine ⟨rfl, (hfz.fnds [3, 2, 0, 1] (by kernel_rfl) ⟨by kernel_rfl, by kernel_rfl, by kernel_rfl, by kernel_rfl, trivial⟩ (by kernel_rfl)), ?_⟩
              refine H_run tt_ok [7] (f' := 6) (by kernel_rfl) (by kernel_rfl) (by kernel_rfl) ?_
              refine H_two 8 18 (by kernel_rfl) (by kernel_rfl) (by kernel_rfl) (fun hfz cx' hx1 hx2 => ?_) (fun hfz cx' hx1 hx2 => ?_)
              · refine LIT tt_ok (by kernel_rfl) ?_
                refine LITSL 8 3 1 1 [.int .i64 (b.loads.getD k1 zLoad).w.lo] [(b.loads.getD k1 zLoad).w.lo] encI 0 (by kernel_rfl) rfl (fun _ => rfl) (fun n => rfl) ?_
                refine WPO_end (by kernel_rfl) ⟨rfl, (hfz.fnds [3, 2, 0, 1] (by kernel_rfl) ⟨by kernel_rfl, by kernel_rfl, by kernel_rfl, by kernel_rfl, trivial⟩ (by kernel_rfl)), ?_⟩
                refine H_two 9 18 (by kernel_rfl) (by kernel_rfl) (by kernel_rfl) (fun hfz cx' hx1 hx2 => ?_) (fun hfz cx' hx1 hx2 => ?_)
                · refine APP tt_ok (.s (.ref 7)) (.s (.ref 8)) 33 3 (some 29) 1 v1_2 ([(b.loads.getD k1 zLoad).w.lo]) encI 0 (by kernel_rfl) (by kernel_rfl) (by kernel_rfl) (by kernel_rfl) (.inr (.inl ⟨7, rfl, (by kernel_rfl)⟩)) (.inr ⟨8, .own, rfl, (by kernel_rfl), (by simp only [List.length_cons, List.length_nil]; omega)⟩) (by simp) (fun y => rfl) (fun y => List.all_eq_true.1 rfl) (fun i hi => (by have hby : (tyL tt 3).map (·.bytes) = some 8 := (by kernel_rfl); rw [hi] at hby; simp only [Option.map_some, Option.some.injEq] at hby; rw [hby]; simp only [List.length_append, List.length_cons, List.length_nil]; omega)) ?_
                  refine WPO_end (by kernel_rfl) ⟨rfl, (hfz.fnds [3, 2, 0, 1] (by kernel_rfl) ⟨by kernel_rfl, by kernel_rfl, by kernel_rfl, by kernel_rfl, trivial⟩ (by kernel_rfl)), ?_⟩
                  refine H_step 18 (by kernel_rfl) (by kernel_rfl) (fun hfz cx' hx1 hx2 => ?_)
                  refine LIT tt_ok (by kernel_rfl) ?_
                  refine LITSL 10 3 1 1 [.int .i64 (b.loads.getD k1 zLoad).w.hi] [(b.loads.getD k1 zLoad).w.hi] encI 0 (by kernel_rfl) rfl (fun _ => rfl) (fun n => rfl) ?_
                  refine WPO_end (by kernel_rfl) ⟨rfl, (hfz.fnds [3, 2, 0, 1] (by kernel_rfl) ⟨by kernel_rfl, by kernel_rfl, by kernel_rfl, by kernel_rfl, trivial⟩ (by kernel_rfl)), ?_⟩
                  refine H_step 19 (by kernel_rfl) (by kernel_rfl) (fun hfz cx' hx1 hx2 => ?_)
                  refine APP tt_ok (.s (.ref 6)) (.s (.ref 10)) 33 3 (some 39) 1 v1_1 ([(b.loads.getD k1 zLoad).w.hi]) encI 0 (by kernel_rfl) (by kernel_rfl) (by kernel_rfl) (by kernel_rfl) (.inr (.inl ⟨6, rfl, (by kernel_rfl)⟩)) (.inr ⟨10, .own, rfl, (by kernel_rfl), (by simp only [List.length_cons, List.length_nil]; omega)⟩) (by simp) (fun y => rfl) (fun y => List.all_eq_true.1 rfl) (fun i hi => (by have hby : (tyL tt 3).map (·.bytes) = some 8 := (by kernel_rfl); rw [hi] at hby; simp only [Option.map_some, Option.some.injEq] at hby; rw [hby]; simp only [List.length_append, List.length_cons, List.length_nil]; omega)) ?_
                  refine WPO_end (by kernel_rfl) ⟨rfl, (hfz.fnds [3, 2, 0, 1] (by kernel_rfl) ⟨by kernel_rfl, by kernel_rfl, by kernel_rfl, by kernel_rfl, trivial⟩ (by kernel_rfl)), ?_⟩
                  refine H_run tt_ok [20, 21] (f' := 0) (by kernel_rfl) (by kernel_rfl) (by kernel_rfl) ?_
                  refine H_done (by kernel_rfl) ?_
                  exact ⟨(), Le_sel (ts := [6, 5, 7, 4, 2, 1]) (ids := [11, 9, 3, 2, 0, 1]) (nx := 12) (by kernel_rfl)⟩
                · refine LIT tt_ok (by kernel_rfl) ?_
                  refine LITSL 9 3 1 1 [.int .i64 (b.loads.getD k1 zLoad).w.hi] [(b.loads.getD k1 zLoad).w.hi] encI 0 (by kernel_rfl) rfl (fun _ => rfl) (fun n => rfl) ?_
                  refine WPO_end (by kernel_rfl) ⟨rfl, (hfz.fnds [3, 2, 0, 1] (by kernel_rfl) ⟨by kernel_rfl, by kernel_rfl, by kernel_rfl, by kernel_rfl, trivial⟩ (by kernel_rfl)), ?_⟩
                  refine H_step 9 (by kernel_rfl) (by kernel_rfl) (fun hfz cx' hx1 hx2 => ?_)
                  refine APP tt_ok (.s (.ref 7)) (.s (.ref 8)) 33 3 (some 29) 1 v1_2 ([(b.loads.getD k1 zLoad).w.lo]) encI 0 (by kernel_rfl) (by kernel_rfl) (by kernel_rfl) (by kernel_rfl) (.inr (.inl ⟨7, rfl, (by kernel_rfl)⟩)) (.inr ⟨8, .own, rfl, (by kernel_rfl), (by simp only [List.length_cons, List.length_nil]; omega)⟩) (by simp) (fun y => rfl) (fun y => List.all_eq_true.1 rfl) (fun i hi => (by have hby : (tyL tt 3).map (·.bytes) = some 8 := (by kernel_rfl); rw [hi] at hby; simp only [Option.map_some, Option.some.injEq] at hby; rw [hby]; simp only [List.length_append, List.length_cons, List.length_nil]; omega)) ?_
                  refine WPO_end (by kernel_rfl) ⟨rfl, (hfz.fnds [3, 2, 0, 1] (by kernel_rfl) ⟨by kernel_rfl, by kernel_rfl, by kernel_rfl, by kernel_rfl, trivial⟩ (by kernel_rfl)), ?_⟩
                  refine H_step 19 (by kernel_rfl) (by kernel_rfl) (fun hfz cx' hx1 hx2 => ?_)
                  refine APP tt_ok (.s (.ref 6)) (.s (.ref 9)) 33 3 (some 39) 1 v1_1 ([(b.loads.getD k1 zLoad).w.hi]) encI 0 (by kernel_rfl) (by kernel_rfl) (by kernel_rfl) (by kernel_rfl) (.inr (.inl ⟨6, rfl, (by kernel_rfl)⟩)) (.inr ⟨9, .own, rfl, (by kernel_rfl), (by simp only [List.length_cons, List.length_nil]; omega)⟩) (by simp) (fun y => rfl) (fun y => List.all_eq_true.1 rfl) (fun i hi => (by have hby : (tyL tt 3).map (·.bytes) = some 8 := (by kernel_rfl); rw [hi] at hby; simp only [Option.map_some, Option.some.injEq] at hby; rw [hby]; simp only [List.length_append, List.length_cons, List.length_nil]; omega)) ?_
                  refine WPO_end (by kernel_rfl) ⟨rfl, (hfz.fnds [3, 2, 0, 1] (by kernel_rfl) ⟨by kernel_rfl, by kernel_rfl, by kernel_rfl, by kernel_rfl, trivial⟩ (by kernel_rfl)), ?_⟩
                  refine H_run tt_ok [20, 21] (f' := 0) (by kernel_rfl) (by kernel_rfl) (by kernel_rfl) ?_
                  refine H_done (by kernel_rfl) ?_
                  exact ⟨(), Le_ren [(9, 10)] ⟨by kernel_rfl, by kernel_rfl, by kernel_rfl, by kernel_rfl, by kernel_rfl, by kernel_rfl, trivial⟩ ⟨by kernel_rfl, rfl, by kernel_rfl, by kernel_rfl, rfl, by kernel_rfl, by kernel_rfl, rfl, by kernel_rfl, by kernel_rfl, rfl, by kernel_rfl, by kernel_rfl, rfl, by kernel_rfl, by kernel_rfl, rfl, by kernel_rfl, trivial⟩ (by kernel_rfl) (by kernel_rfl) (rnm_id (m := 2) (by kernel_rfl)) (by show 2 ≤ 12; decide) (by kernel_rfl) (by kernel_rfl)⟩
              · refine LIT tt_ok (by kernel_rfl) ?_
                refine LITSL 8 3 1 1 [.int .i64 (b.loads.getD k1 zLoad).w.hi] [(b.loads.getD k1 zLoad).w.hi] encI 0 (by kernel_rfl) rfl (fun _ => rfl) (fun n => rfl) ?_
                refine WPO_end (by kernel_rfl) ⟨rfl, (hfz.fnds [3, 2, 0, 1] (by kernel_rfl) ⟨by kernel_rfl, by kernel_rfl, by kernel_rfl, by kernel_rfl, trivial⟩ (by kernel_rfl)), ?_⟩
                refine H_step 8 (by kernel_rfl) (by kernel_rfl) (fun hfz cx' hx1 hx2 => ?_)
                refine LIT tt_ok (by kernel_rfl) ?_
                refine LITSL 9 3 1 1 [.int .i64 (b.loads.getD k1 zLoad).w.lo] [(b.loads.getD k1 zLoad).w.lo] encI 0 (by kernel_rfl) rfl (fun _ => rfl) (fun n => rfl) ?_
                refine WPO_end (by kernel_rfl) ⟨rfl, (hfz.fnds [3, 2, 0, 1] (by kernel_rfl) ⟨by kernel_rfl, by kernel_rfl, by kernel_rfl, by kernel_rfl, trivial⟩ (by kernel_rfl)), ?_⟩
                refine H_step 9 (by kernel_rfl) (by kernel_rfl) (fun hfz cx' hx1 hx2 => ?_)
                refine APP tt_ok (.s (.ref 7)) (.s (.ref 9)) 33 3 (some 29) 1 v1_2 ([(b.loads.getD k1 zLoad).w.lo]) encI 0 (by kernel_rfl) (by kernel_rfl) (by kernel_rfl) (by kernel_rfl) (.inr (.inl ⟨7, rfl, (by kernel_rfl)⟩)) (.inr ⟨9, .own, rfl, (by kernel_rfl), (by simp only [List.length_cons, List.length_nil]; omega)⟩) (by simp) (fun y => rfl) (fun y => List.all_eq_true.1 rfl) (fun i hi => (by have hby : (tyL tt 3).map (·.bytes) = some 8 := (by kernel_rfl); rw [hi] at hby; simp only [Option.map_some, Option.some.injEq] at hby; rw [hby]; simp only [List.length_append, List.length_cons, List.length_nil]; omega)) ?_
                refine WPO_end (by kernel_rfl) ⟨rfl, (hfz.fnds [3, 2, 0, 1] (by kernel_rfl) ⟨by kernel_rfl, by kernel_rfl, by kernel_rfl, by kernel_rfl, trivial⟩ (by kernel_rfl)), ?_⟩
                refine H_step 19 (by kernel_rfl) (by kernel_rfl) (fun hfz cx' hx1 hx2 => ?_)
                refine APP tt_ok (.s (.ref 6)) (.s (.ref 8)) 33 3 (some 39) 1 v1_1 ([(b.loads.getD k1 zLoad).w.hi]) encI 0 (by kernel_rfl) (by kernel_rfl) (by kernel_rfl) (by kernel_rfl) (.inr (.inl ⟨6, rfl, (by kernel_rfl)⟩)) (.inr ⟨8, .own, rfl, (by kernel_rfl), (by simp only [List.length_cons, List.length_nil]; omega)⟩) (by simp) (fun y => rfl) (fun y => List.all_eq_true.1 rfl) (fun i hi => (by have hby : (tyL tt 3).map (·.bytes) = some 8 := (by kernel_rfl); rw [hi] at hby; simp only [Option.map_some, Option.some.injEq] at hby; rw [hby]; simp only [List.length_append, List.length_cons, List.length_nil]; omega)) ?_
                refine WPO_end (by kernel_rfl) ⟨rfl, (hfz.fnds [3, 2, 0, 1] (by kernel_rfl) ⟨by kernel_rfl, by kernel_rfl, by kernel_rfl, by kernel_rfl, trivial⟩ (by kernel_rfl)), ?_⟩
                refine H_run tt_ok [20, 21] (f' := 0) (by kernel_rfl) (by kernel_rfl) (by kernel_rfl) ?_
                refine H_done (by kernel_rfl) ?_
                exact ⟨(), Le_ren [(9, 10)] ⟨by kernel_rfl, by kernel_rfl, by kernel_rfl, by kernel_rfl, by kernel_rfl, by kernel_rfl, trivial⟩ ⟨by kernel_rfl, rfl, by kernel_rfl, by kernel_rfl, rfl, by kernel_rfl, by kernel_rfl, rfl, by kernel_rfl, by kernel_rfl, rfl, by kernel_rfl, by kernel_rfl, rfl, by kernel_rfl, by kernel_rfl, rfl, by kernel_rfl, trivial⟩ (by kernel_rfl) (by kernel_rfl) (rnm_id (m := 2) (by kernel_rfl)) (by show 2 ≤ 12; decide) (by kernel_rfl) (by kernel_rfl)⟩
            · refine LIT tt_ok (by kernel_rfl) ?_
              refine LITSL 8 3 1 1 [.int .i64 (b.loads.getD k1 zLoad).w.hi] [(b.loads.getD k1 zLoad).w.hi] encI 0 (by kernel_rfl) rfl (fun _ => rfl) (fun n => rfl) ?_
              refine WPO_end (by kernel_rfl) ⟨rfl, (hfz.fnds [3, 2, 0, 1] (by kernel_rfl) ⟨by kernel_rfl, by kernel_rfl, by kernel_rfl, by kernel_rfl, trivial⟩ (by kernel_rfl)), ?_⟩
              refine H_step 6 (by kernel_rfl) (by kernel_rfl) (fun hfz cx' hx1 hx2 => ?_)
              refine WPO_all tt_ok (by kernel_rfl) ?_
              refine ⟨rfl, (hfz.fnds [3, 2, 0, 1] (by kernel_rfl) ⟨by kernel_rfl, by kernel_rfl, by kernel_rfl, by kernel_rfl, trivial⟩ (by kernel_rfl)), ?_⟩
              refine H_run tt_ok [7] (f' := 5) (by kernel_rfl) (by kernel_rfl) (by kernel_rfl) ?_
              refine H_step 8 (by kernel_rfl) (by kernel_rfl) (fun hfz cx' hx1 hx2 => ?_)
              refine LIT tt_ok (by kernel_rfl) ?_
              refine LITSL 9 3 1 1 [.int .i64 (b.loads.getD k1 zLoad).w.lo] [(b.loads.getD k1 zLoad).w.lo] encI 0 (by kernel_rfl) rfl (fun _ => rfl) (fun n => rfl) ?_
              refine WPO_end (by kernel_rfl) ⟨rfl, (hfz.fnds [3, 2, 0, 1] (by kernel_rfl) ⟨by kernel_rfl, by kernel_rfl, by kernel_rfl, by kernel_rfl, trivial⟩ (by kernel_rfl)), ?_⟩
              refine H_step 9 (by kernel_rfl) (by kernel_rfl) (fun hfz cx' hx1 hx2 => ?_)
              refine APP tt_ok (.s (.ref 7)) (.s (.ref 9)) 33 3 (some 29) 1 v1_2 ([(b.loads.getD k1 zLoad).w.lo]) encI 0 (by kernel_rfl) (by kernel_rfl) (by kernel_rfl) (by kernel_rfl) (.inr (.inl ⟨7, rfl, (by kernel_rfl)⟩)) (.inr ⟨9, .own, rfl, (by kernel_rfl), (by simp only [List.length_cons, List.length_nil]; omega)⟩) (by simp) (fun y => rfl) (fun y => List.all_eq_true.1 rfl) (fun i hi => (by have hby : (tyL tt 3).map (·.bytes) = some 8 := (by kernel_rfl); rw [hi] at hby; simp only [Option.map_some, Option.some.injEq] at hby; rw [hby]; simp only [List.length_append, List.length_cons, List.length_nil]; omega)) ?_
              refine WPO_end (by kernel_rfl) ⟨rfl, (hfz.fnds [3, 2, 0, 1] (by kernel_rfl) ⟨by kernel_rfl, by kernel_rfl, by kernel_rfl, by kernel_rfl, trivial⟩ (by kernel_rfl)), ?_⟩
              refine H_step 19 (by kernel_rfl) (by kernel_rfl) (fun hfz cx' hx1 hx2 => ?_)
              refine APP tt_ok (.s (.ref 6)) (.s (.ref 8)) 33 3 (some 39) 1 v1_1 ([(b.loads.getD k1 zLoad).w.hi]) encI 0 (by kernel_rfl) (by kernel_rfl) (by kernel_rfl) (by kernel_rfl) (.inr (.inl ⟨6, rfl, (by kernel_rfl)⟩)) (.inr ⟨8, .own, rfl, (by kernel_rfl), (by simp only [List.length_cons, List.length_nil]; omega)⟩) (by simp) (fun y => rfl) (fun y => List.all_eq_true.1 rfl) (fun i hi => (by have hby : (tyL tt 3).map (·.bytes) = some 8 := (by kernel_rfl); rw [hi] at hby; simp only [Option.map_some, Option.some.injEq] at hby; rw [hby]; simp only [List.length_append, List.length_cons, List.length_nil]; omega)) ?_
              refine WPO_end (by kernel_rfl) ⟨rfl, (hfz.fnds [3, 2, 0, 1] (by kernel_rfl) ⟨by kernel_rfl, by kernel_rfl, by kernel_rfl, by kernel_rfl, trivial⟩ (by kernel_rfl)), ?_⟩
              refine H_run tt_ok [20, 21] (f' := 0) (by kernel_rfl) (by kernel_rfl) (by kernel_rfl) ?_
              refine H_done (by kernel_rfl) ?_
              exact ⟨(), Le_ren [(9, 10)] ⟨by kernel_rfl, by kernel_rfl, by kernel_rfl, by kernel_rfl, by kernel_rfl, by kernel_rfl, trivial⟩ ⟨by kernel_rfl, rfl, by kernel_rfl, by kernel_rfl, rfl, by kernel_rfl, by kernel_rfl, rfl, by kernel_rfl, by kernel_rfl, rfl, by kernel_rfl, by kernel_rfl, rfl, by kernel_rfl, by kernel_rfl, rfl, by kernel_rfl, trivial⟩ (by kernel_rfl) (by kernel_rfl) (rnm_id (m := 2) (by kernel_rfl)) (by show 2 ≤ 12; decide) (by kernel_rfl) (by kernel_rfl)⟩
          · refine LIT tt_ok (by kernel_rfl) ?_
            refine LITSL 8 3 1 1 [.int .i64 (b.loads.getD k1 zLoad).w.hi] [(b.loads.getD k1 zLoad).w.hi] encI 0 (by kernel_rfl) rfl (fun _ => rfl) (fun n => rfl) ?_
            refine WPO_end (by kernel_rfl) ⟨rfl, (hfz.fnds [3, 2, 0, 1] (by kernel_rfl) ⟨by kernel_rfl, by kernel_rfl, by kernel_rfl, by kernel_rfl, trivial⟩ (by kernel_rfl)), ?_⟩
            refine H_step 5 (by kernel_rfl) (by kernel_rfl) (fun hfz cx' hx1 hx2 => ?_)
            refine WPO_all tt_ok (by kernel_rfl) ?_
            refine ⟨rfl, (hfz.fnds [3, 2, 0, 1] (by kernel_rfl) ⟨by kernel_rfl, by kernel_rfl, by kernel_rfl, by kernel_rfl, trivial⟩ (by kernel_rfl)), ?_⟩
            refine H_step 6 (by kernel_rfl) (by kernel_rfl) (fun hfz cx' hx1 hx2 => ?_)
            refine WPO_all tt_ok (by kernel_rfl) ?_
            refine ⟨rfl, (hfz.fnds [3, 2, 0, 1] (by kernel_rfl) ⟨by kernel_rfl, by kernel_rfl, by kernel_rfl, by kernel_rfl, trivial⟩ (by kernel_rfl)), ?_⟩
            refine H_run tt_ok [7] (f' := 5) (by kernel_rfl) (by kernel_rfl) (by kernel_rfl) ?_
            refine H_step 8 (by kernel_rfl) (by kernel_rfl) (fun hfz cx' hx1 hx2 => ?_)
            refine LIT tt_ok (by kernel_rfl) ?_
            refine LITSL 9 3 1 1 [.int .i64 (b.loads.getD k1 zLoad).w.lo] [(b.loads.getD k1 zLoad).w.lo] encI 0 (by kernel_rfl) rfl (fun _ => rfl) (fun n => rfl) ?_
            refine WPO_end (by kernel_rfl) ⟨rfl, (hfz.fnds [3, 2, 0, 1] (by kernel_rfl) ⟨by kernel_rfl, by kernel_rfl, by kernel_rfl, by kernel_rfl, trivial⟩ (by kernel_rfl)), ?_⟩
            refine H_step 9 (by kernel_rfl) (by kernel_rfl) (fun hfz cx' hx1 hx2 => ?_)
            refine APP tt_ok (.s (.ref 7)) (.s (.ref 9)) 33 3 (some 29) 1 v1_2 ([(b.loads.getD k1 zLoad).w.lo]) encI 0 (by kernel_rfl) (by kernel_rfl) (by kernel_rfl) (by kernel_rfl) (.inr (.inl ⟨7, rfl, (by kernel_rfl)⟩)) (.inr ⟨9, .own, rfl, (by kernel_rfl), (by simp only [List.length_cons, List.length_nil]; omega)⟩) (by simp) (fun y => rfl) (fun y => List.all_eq_true.1 rfl) (fun i hi => (by have hby : (tyL tt 3).map (·.bytes) = some 8 := (by kernel_rfl); rw [hi] at hby; simp only [Option.map_some, Option.some.injEq] at hby; rw [hby]; simp only [List.length_append, List.length_cons, List.length_nil]; omega)) ?_
            refine WPO_end (by kernel_rfl) ⟨rfl, (hfz.fnds [3, 2, 0, 1] (by kernel_rfl) ⟨by kernel_rfl, by kernel_rfl, by kernel_rfl, by kernel_rfl, trivial⟩ (by kernel_rfl)), ?_⟩
            refine H_step 19 (by kernel_rfl) (by kernel_rfl) (fun hfz cx' hx1 hx2 => ?_)
            refine APP tt_ok (.s (.ref 6)) (.s (.ref 8)) 33 3 (some 39) 1 v1_1 ([(b.loads.getD k1 zLoad).w.hi]) encI 0 (by kernel_rfl) (by kernel_rfl) (by kernel_rfl) (by kernel_rfl) (.inr (.inl ⟨6, rfl, (by kernel_rfl)⟩)) (.inr ⟨8, .own, rfl, (by kernel_rfl), (by simp only [List.length_cons, List.length_nil]; omega)⟩) (by simp) (fun y => rfl) (fun y => List.all_eq_true.1 rfl) (fun i hi => (by have hby : (tyL tt 3).map (·.bytes) = some 8 := (by kernel_rfl); rw [hi] at hby; simp only [Option.map_some, Option.some.injEq] at hby; rw [hby]; simp only [List.length_append, List.length_cons, List.length_nil]; omega)) ?_
            refine WPO_end (by kernel_rfl) ⟨rfl, (hfz.fnds [3, 2, 0, 1] (by kernel_rfl) ⟨by kernel_rfl, by kernel_rfl, by kernel_rfl, by kernel_rfl, trivial⟩ (by kernel_rfl)), ?_⟩
            refine H_run tt_ok [20, 21] (f' := 0) (by kernel_rfl) (by kernel_rfl) (by kernel_rfl) ?_
            refine H_done (by kernel_rfl) ?_
            exact ⟨(), Le_ren [(9, 10)] ⟨by kernel_rfl, by kernel_rfl, by kernel_rfl, by kernel_rfl, by kernel_rfl, by kernel_rfl, trivial⟩ ⟨by kernel_rfl, rfl, by kernel_rfl, by kernel_rfl, rfl, by kernel_rfl, by kernel_rfl, rfl, by kernel_rfl, by kernel_rfl, rfl, by kernel_rfl, by kernel_rfl, rfl, by kernel_rfl, by kernel_rfl, rfl, by kernel_rfl, trivial⟩ (by kernel_rfl) (by kernel_rfl) (rnm_id (m := 2) (by kernel_rfl)) (by show 2 ≤ 12; decide) (by kernel_rfl) (by kernel_rfl)⟩
    intro _
    refine WP_region (WPO_all tt_ok (by kernel_rfl) ?_)
    show Q1 .normal _
    exact LA_go hq1 (ci := IntKind.i64.wrap ((k1 : Int) + 1)) (v1_1 ++ ([(b.loads.getD k1 zLoad).w.hi]), v1_2 ++ ([(b.loads.getD k1 zLoad).w.lo])) hk1 (by show _ = ((k1 + 1 : Nat) : Int); rw [wrapI (by omega) (by omega)]; omega) (loopR_go hi1 hk1 hc1 (rfl)) ⟨by simp only [List.length_append, List.length_cons, List.length_nil]; omega, by simp only [List.length_append, List.length_cons, List.length_nil]; omega⟩ (Le_ren [(7, 9), (6, 11)] ⟨by kernel_rfl, by kernel_rfl, by kernel_rfl, by kernel_rfl, by kernel_rfl, by kernel_rfl, trivial⟩ ⟨by kernel_rfl, rfl, by kernel_rfl, by kernel_rfl, rfl, by kernel_rfl, by kernel_rfl, rfl, by kernel_rfl, by kernel_rfl, rfl, by kernel_rfl, by kernel_rfl, rfl, by kernel_rfl, by kernel_rfl, rfl, by kernel_rfl, trivial⟩ (by kernel_rfl) (by kernel_rfl) (rnm_id (m := 2) (by kernel_rfl)) (by show 2 ≤ 8; decide) (by kernel_rfl) (by kernel_rfl))
  intro zz hR1 hP1 s' hl
  obtain ⟨u1_0, u1_1⟩ := zz
  obtain ⟨kP1, hkP1, hpP1⟩ := hP1
  replace hpP1 : u1_0.length ≤ kP1 ∧ u1_1.length ≤ kP1 := hpP1
  refine WP_le hl ?_
  clear hl s'
  have hlen : u1_0.length = b.loads.length ∧ u1_1.length = b.loads.length := by
    rcases loopR_keep (c := endsL_c1 b on) (b := endsL_b1 b on) (N := b.loads.length) (fun k v => v.1.length = k ∧ v.2.length = k) (fun _ => False) (fun k v hk _ => by obtain ⟨v1, v2⟩ := v; simp only [endsL_c1]; rw [decide_eq_true]; omega) (fun k v hk hp => by obtain ⟨v1, v2⟩ := v; exact .inl ⟨_, rfl, by simp only [List.length_append, List.length_singleton]; have h9 : v1.length = k := hp.1; omega, by simp only [List.length_append, List.length_singleton]; have h9 : v2.length = k := hp.2; omega⟩) ([], []) ⟨rfl, rfl⟩ with ⟨v, e, h⟩ | ⟨r, e, h⟩
    · rw [hR1] at e; cases e; exact h
    · exact h.elim
  refine WP_seq (WP_region (CALL 65 [.s (.int .i64 0)] (.g [.int .i64 (pointF 0).lo, .int .i64 (pointF 0).hi]) [] (by kernel_rfl) (goes_of (by kernel_rfl)) (by kernel_rfl) (by kernel_rfl) (fun hG nV w h => pointF_calls  0 w  ) ?_))
  refine WPO_all tt_ok (by kernel_rfl) ?_
  refine WP_seq (WP_seq (WP_region (WPO_all tt_ok (by kernel_rfl) ?_)))
  refine WP_loopA (ρ := Span) (endsL_c2 b on u1_0 u1_1) (endsL_b2 b on u1_0 u1_1) on.length ((pointF 0).lo, (pointF 0).hi) (fun k : Nat => (k : Int)) (fun (ci : Int) (zz : Int × Int) => ⟨64, [(9, [], .s (.int .i64 ci)), (8, [], .s (.p 8 0)), (6, [], .s (.ref 6)), (5, [], .s (.ref 7)), (4, [], .s (.p 3 0)), (1, [], .s (.ref 1))], [(8, .box 43 [.int .i64 zz.1, .int .i64 zz.2]), (7, .sl .own 3 1 u1_1 encI 0), (6, .sl .own 3 1 u1_0 encI 0), (3, .box 43 [.int .i64 0, .int .i64 0]), (2, .box 24 [.ref 0, .int .i64 b.rule, .int .i64 b.most]), (0, .sl .ro 61 3 b.loads encLoad zLoad), (1, .sl .ro 65 2 on encPlace zPlace)], 9, []⟩) (fun zz : Int × Int => ⟨64, [(8, [], .s (.p 8 0)), (4, [], .s (.p 3 0))], [(8, .box 43 [.int .i64 zz.1, .int .i64 zz.2]), (7, .sl .own 3 1 u1_1 encI 0), (6, .sl .own 3 1 u1_0 encI 0), (3, .box 43 [.int .i64 0, .int .i64 0]), (2, .box 24 [.ref 0, .int .i64 b.rule, .int .i64 b.most]), (0, .sl .ro 61 3 b.loads encLoad zLoad), (1, .sl .ro 65 2 on encPlace zPlace)], 9, []⟩) (fun k zz => True) trivial ⟨0, rfl, Le_sel (ts := [9, 8, 6, 5, 4, 1]) (ids := [8, 7, 6, 3, 2, 0, 1]) (nx := 9) (by kernel_rfl)⟩ ?_ ?_
  · intro k2 zz hn2 hp2 hi2 Q2 hq2 ho2
    obtain ⟨v2_1, v2_2⟩ := zz
    refine WP_seq (WP_seq (WP_region (WPO_all tt_ok (by kernel_rfl) ?_)))
    refine WP_cond (decide ((k2 : Int) < (on.length : Int))) (by kernel_rfl) (fun hc2 => ?_) (fun hc2 => ?_)
    rotate_left
    · refine WP_exit ?_
      show Q2 (.exit 2) _
      exact LA_exit hq2 (v2_1, v2_2) (loopR_end hi2 hc2) ⟨k2, hn2, hp2⟩ (Le_sel (ts := [8, 4]) (ids := [8, 7, 6, 3, 2, 0, 1]) (nx := 9) (by kernel_rfl))
    have hc2' := of_decide_eq_true hc2
    have hk2 : k2 < on.length := by omega
    have hcx : ∀ x ∈ cut on (k2 : Int) (IntKind.i64.wrap ((k2 : Int) + 1)), 0 ≤ x.load ∧ x.load < (u1_0.length : Int) := fun x hx => by have := hon x (mem_cut hx); omega
    have hcy : ∀ x ∈ cut on (k2 : Int) (IntKind.i64.wrap ((k2 : Int) + 1)), 0 ≤ x.load ∧ x.load < (u1_1.length : Int) := fun x hx => by have := hon x (mem_cut hx); omega
    refine WP_skip ?_
    refine WP_seq (WP_block ?_)
    refine WP_seq (WP_region (WPO_run tt_ok 4 (by kernel_rfl) ?_))
    refine SLC tt_ok 1 on.length .ro 65 2 (k2 : Int) (IntKind.i64.wrap ((k2 : Int) + 1)) none .ro (some 51) (by kernel_rfl) (by kernel_rfl) (by (try rw [wrapI (by omega) (by omega)]); exact ⟨by omega, by omega, by omega⟩) (.inl ⟨rfl, fun m h => by cases h⟩) ?_
    refine WPO_all tt_ok (by kernel_rfl) ?_
    refine WP_drawHM 11 [] [8] (by kernel_rfl) (by kernel_rfl) ?_
    refine H_run tt_ok [0, 1, 2, 5, 6] (f' := 6) (by kernel_rfl) (by kernel_rfl) (by kernel_rfl) ?_
    refine H_step 3 (by kernel_rfl) (by kernel_rfl) (fun hfz cx' hx1 hx2 => ?_)
    refine CALL 33 [.s (.ref 9), .s (.ref 7)] (.s (.int .i64 (leanL (cut on (k2 : Int) (IntKind.i64.wrap ((k2 : Int) + 1))) u1_1))) [] (by kernel_rfl) (goes_of (by kernel_rfl)) (by kernel_rfl) (by kernel_rfl) (fun hG nV w h => leanL_calls (nV 9) (nV 7) (cut on (k2 : Int) (IntKind.i64.wrap ((k2 : Int) + 1))) u1_1 w (h.reads (id := 9) (kd := .ro) (e := 65) (by kernel_rfl)) (h.reads (id := 7) (kd := .own) (e := 3) (by kernel_rfl)) (by first | assumption | omega)) ?_
    refine WPO_end (by kernel_rfl) ⟨rfl, (hfz.fnds [9, 8, 7, 6, 3, 2, 0, 1] (by kernel_rfl) ⟨by kernel_rfl, by kernel_rfl, by kernel_rfl, by kernel_rfl, by kernel_rfl, by kernel_rfl, by kernel_rfl, by kernel_rfl, trivial⟩ (by kernel_rfl)), ?_⟩
    refine H_step 4 (by kernel_rfl) (by kernel_rfl) (fun hfz cx' hx1 hx2 => ?_)
    refine CALL 65 [.s (.int .i64 (leanL (cut on (k2 : Int) (IntKind.i64.wrap ((k2 : Int) + 1))) u1_1))] (.g [.int .i64 (pointF (leanL (cut on (k2 : Int) (IntKind.i64.wrap ((k2 : Int) + 1))) u1_1)).lo, .int .i64 (pointF (leanL (cut on (k2 : Int) (IntKind.i64.wrap ((k2 : Int) + 1))) u1_1)).hi]) [] (by kernel_rfl) (goes_of (by kernel_rfl)) (by kernel_rfl) (by kernel_rfl) (fun hG nV w h => pointF_calls  (leanL (cut on (k2 : Int) (IntKind.i64.wrap ((k2 : Int) + 1))) u1_1) w  ) ?_
    refine WPO_end (by kernel_rfl) ⟨rfl, (hfz.fnds [9, 8, 7, 6, 3, 2, 0, 1] (by kernel_rfl) ⟨by kernel_rfl, by kernel_rfl, by kernel_rfl, by kernel_rfl, by kernel_rfl, by kernel_rfl, by kernel_rfl, by kernel_rfl, trivial⟩ (by kernel_rfl)), ?_⟩
    refine H_step 7 (by kernel_rfl) (by kernel_rfl) (fun hfz cx' hx1 hx2 => ?_)
    refine CALL 33 [.s (.ref 9), .s (.ref 6)] (.s (.int .i64 (leanL (cut on (k2 : Int) (IntKind.i64.wrap ((k2 : Int) + 1))) u1_0))) [] (by kernel_rfl) (goes_of (by kernel_rfl)) (by kernel_rfl) (by kernel_rfl) (fun hG nV w h => leanL_calls (nV 9) (nV 6) (cut on (k2 : Int) (IntKind.i64.wrap ((k2 : Int) + 1))) u1_0 w (h.reads (id := 9) (kd := .ro) (e := 65) (by kernel_rfl)) (h.reads (id := 6) (kd := .own) (e := 3) (by kernel_rfl)) (by first | assumption | omega)) ?_
    refine WPO_end (by kernel_rfl) ⟨rfl, (hfz.fnds [9, 8, 7, 6, 3, 2, 0, 1] (by kernel_rfl) ⟨by kernel_rfl, by kernel_rfl, by kernel_rfl, by kernel_rfl, by kernel_rfl, by kernel_rfl, by kernel_rfl, by kernel_rfl, trivial⟩ (by kernel_rfl)), ?_⟩
    refine H_step 8 (by kernel_rfl) (by kernel_rfl) (fun hfz cx' hx1 hx2 => ?_)
    refine CALL 65 [.s (.int .i64 (leanL (cut on (k2 : Int) (IntKind.i64.wrap ((k2 : Int) + 1))) u1_0))] (.g [.int .i64 (pointF (leanL (cut on (k2 : Int) (IntKind.i64.wrap ((k2 : Int) + 1))) u1_0)).lo, .int .i64 (pointF (leanL (cut on (k2 : Int) (IntKind.i64.wrap ((k2 : Int) + 1))) u1_0)).hi]) [] (by kernel_rfl) (goes_of (by kernel_rfl)) (by kernel_rfl) (by kernel_rfl) (fun hG nV w h => pointF_calls  (leanL (cut on (k2 : Int) (IntKind.i64.wrap ((k2 : Int) + 1))) u1_0) w  ) ?_
    refine WPO_end (by kernel_rfl) ⟨rfl, (hfz.fnds [9, 8, 7, 6, 3, 2, 0, 1] (by kernel_rfl) ⟨by kernel_rfl, by kernel_rfl, by kernel_rfl, by kernel_rfl, by kernel_rfl, by kernel_rfl, by kernel_rfl, by kernel_rfl, trivial⟩ (by kernel_rfl)), ?_⟩
    refine H_step 9 (by kernel_rfl) (by kernel_rfl) (fun hfz cx' hx1 hx2 => ?_)
    refine CALL 94 [.g [.int .i64 (pointF (leanL (cut on (k2 : Int) (IntKind.i64.wrap ((k2 : Int) + 1))) u1_1)).lo, .int .i64 (pointF (leanL (cut on (k2 : Int) (IntKind.i64.wrap ((k2 : Int) + 1))) u1_1)).hi], .g [.int .i64 (pointF (leanL (cut on (k2 : Int) (IntKind.i64.wrap ((k2 : Int) + 1))) u1_0)).lo, .int .i64 (pointF (leanL (cut on (k2 : Int) (IntKind.i64.wrap ((k2 : Int) + 1))) u1_0)).hi]] (.g [.int .i64 (hullF (pointF (leanL (cut on (k2 : Int) (IntKind.i64.wrap ((k2 : Int) + 1))) u1_1)) (pointF (leanL (cut on (k2 : Int) (IntKind.i64.wrap ((k2 : Int) + 1))) u1_0))).lo, .int .i64 (hullF (pointF (leanL (cut on (k2 : Int) (IntKind.i64.wrap ((k2 : Int) + 1))) u1_1)) (pointF (leanL (cut on (k2 : Int) (IntKind.i64.wrap ((k2 : Int) + 1))) u1_0))).hi]) [] (by kernel_rfl) (goes_of (by kernel_rfl)) (by kernel_rfl) (by kernel_rfl) (fun hG nV w h => hullF_calls  (pointF (leanL (cut on (k2 : Int) (IntKind.i64.wrap ((k2 : Int) + 1))) u1_1)) (pointF (leanL (cut on (k2 : Int) (IntKind.i64.wrap ((k2 : Int) + 1))) u1_0)) w  ) ?_
    refine WPO_end (by kernel_rfl) ⟨rfl, (hfz.fnds [9, 8, 7, 6, 3, 2, 0, 1] (by kernel_rfl) ⟨by kernel_rfl, by kernel_rfl, by kernel_rfl, by kernel_rfl, by kernel_rfl, by kernel_rfl, by kernel_rfl, by kernel_rfl, trivial⟩ (by kernel_rfl)), ?_⟩
    refine H_step 10 (by kernel_rfl) (by kernel_rfl) (fun hfz cx' hx1 hx2 => ?_)
    refine CALL 93 [.g [.int .i64 v2_1, .int .i64 v2_2], .g [.int .i64 (hullF (pointF (leanL (cut on (k2 : Int) (IntKind.i64.wrap ((k2 : Int) + 1))) u1_1)) (pointF (leanL (cut on (k2 : Int) (IntKind.i64.wrap ((k2 : Int) + 1))) u1_0))).lo, .int .i64 (hullF (pointF (leanL (cut on (k2 : Int) (IntKind.i64.wrap ((k2 : Int) + 1))) u1_1)) (pointF (leanL (cut on (k2 : Int) (IntKind.i64.wrap ((k2 : Int) + 1))) u1_0))).hi]] (.g [.int .i64 (addedF (⟨v2_1, v2_2⟩ : Span) (hullF (pointF (leanL (cut on (k2 : Int) (IntKind.i64.wrap ((k2 : Int) + 1))) u1_1)) (pointF (leanL (cut on (k2 : Int) (IntKind.i64.wrap ((k2 : Int) + 1))) u1_0)))).lo, .int .i64 (addedF (⟨v2_1, v2_2⟩ : Span) (hullF (pointF (leanL (cut on (k2 : Int) (IntKind.i64.wrap ((k2 : Int) + 1))) u1_1)) (pointF (leanL (cut on (k2 : Int) (IntKind.i64.wrap ((k2 : Int) + 1))) u1_0)))).hi]) [] (by kernel_rfl) (goes_of (by kernel_rfl)) (by kernel_rfl) (by kernel_rfl) (fun hG nV w h => addedF_calls  (⟨v2_1, v2_2⟩ : Span) (hullF (pointF (leanL (cut on (k2 : Int) (IntKind.i64.wrap ((k2 : Int) + 1))) u1_1)) (pointF (leanL (cut on (k2 : Int) (IntKind.i64.wrap ((k2 : Int) + 1))) u1_0))) w  ) ?_
    refine WPO_end (by kernel_rfl) ⟨rfl, (hfz.fnds [9, 8, 7, 6, 3, 2, 0, 1] (by kernel_rfl) ⟨by kernel_rfl, by kernel_rfl, by kernel_rfl, by kernel_rfl, by kernel_rfl, by kernel_rfl, by kernel_rfl, by kernel_rfl, trivial⟩ (by kernel_rfl)), ?_⟩
    refine H_done (by kernel_rfl) ?_
    refine ⟨(by kernel_rfl), ?_⟩
    refine H_step 11 (by kernel_rfl) (by kernel_rfl) (fun hfz cx' hx1 hx2 => ?_)
    refine WPO_all tt_ok (by kernel_rfl) ?_
    refine ⟨rfl, (hfz.fnds [9, 7, 6, 3, 2, 0, 1] (by kernel_rfl) ⟨by kernel_rfl, by kernel_rfl, by kernel_rfl, by kernel_rfl, by kernel_rfl, by kernel_rfl, by kernel_rfl, trivial⟩ (by kernel_rfl)), ?_⟩
    refine H_done (by kernel_rfl) ?_
    refine WP_region (WPO_all tt_ok (by kernel_rfl) ?_)
    show Q2 .normal _
    exact LA_go hq2 (ci := IntKind.i64.wrap ((k2 : Int) + 1)) ((addedF (⟨v2_1, v2_2⟩ : Span) (hullF (pointF (leanL (cut on (k2 : Int) (IntKind.i64.wrap ((k2 : Int) + 1))) u1_1)) (pointF (leanL (cut on (k2 : Int) (IntKind.i64.wrap ((k2 : Int) + 1))) u1_0)))).lo, (addedF (⟨v2_1, v2_2⟩ : Span) (hullF (pointF (leanL (cut on (k2 : Int) (IntKind.i64.wrap ((k2 : Int) + 1))) u1_1)) (pointF (leanL (cut on (k2 : Int) (IntKind.i64.wrap ((k2 : Int) + 1))) u1_0)))).hi) hk2 (by show _ = ((k2 + 1 : Nat) : Int); rw [wrapI (by omega) (by omega)]; omega) (loopR_go hi2 hk2 hc2 (rfl)) trivial (Le_sel (ts := [9, 8, 6, 5, 4, 1]) (ids := [8, 7, 6, 3, 2, 0, 1]) (nx := 9) (by kernel_rfl))
  intro zz hR2 hP2 s' hl
  obtain ⟨u2_0, u2_1⟩ := zz
  refine WP_le hl ?_
  clear hl s'
  refine WP_seq (WP_region (WPO_all tt_ok (by kernel_rfl) ?_))
  refine WP_ret ?_
  exact ⟨.g [.int .i64 u2_0, .int .i64 u2_1], by kernel_rfl, fun nV w' h => ⟨by rw [show endsL b on = (⟨u2_0, u2_1⟩ : Span) from by unfold endsL; simp only [hR1, hR2, cond_true, cond_false]]; rfl, h.bel⟩⟩
end Go.Proofs.YthfnedbpmdkdjaaDoor.D
namespace Go.Proofs.YthfnedbpmdkdjaaDoor.D
open Go Go.ChangeShapes Go.WideShapes Go.RowKit Go.Proofs.YthfnedbpmdkdjaaDoor.Eng Go.Proofs.YthfnedbpmdkdjaaDoor.Cm
set_option linter.unusedVariables false
set_option linter.unusedSimpArgs false
set_option linter.unusedSectionVars false
set_option maxRecDepth 100000
theorem app_eq {a b c d : List Value} (h : a = b) (k : c = d) : a ++ c = b ++ d := by rw [h, k]
theorem opn3 {w : World} : Opn Tryd.prog w 3 (fun cs => ∃ (b : Int), cs = [iv b] ∧ i64B b ∧ True) := (Opn_int Tryd.underlying3).mono fun cs ⟨n, h1, h2⟩ => ⟨n, h1, h2, trivial⟩
theorem opn43 {w : World} : Opn Tryd.prog w 43 (fun cs => ∃ (b : Span), cs = [iv b.lo, iv b.hi] ∧ i64B b.lo ∧ i64B b.hi ∧ True) :=
  (Opn_parts (P := Tryd.prog) (w := w) [⟨0, 3, 1, (fun cs => ∃ (b : Int), cs = [iv b] ∧ i64B b ∧ True)⟩, ⟨1, 3, 1, (fun cs => ∃ (b : Int), cs = [iv b] ∧ i64B b ∧ True)⟩] 2 Tryd.underlying43 (by kernel_rfl) (by kernel_rfl) ⟨opn3, opn3, trivial⟩).mono fun cs h => by
    obtain ⟨hl, ⟨b0, e0, f0_0, _⟩, ⟨b1, e1, f1_0, _⟩, _⟩ := h
    exact ⟨(⟨b0, b1⟩ : Span), (tl 0 1 cs).trans (app_eq e0 ((tl 1 1 cs).trans (app_eq e1 (tlz hl)))), f0_0, f1_0, trivial⟩
theorem opn61 {w : World} : Opn Tryd.prog w 61 (fun cs => ∃ (b : Load), cs = [iv b.w.lo, iv b.w.hi, iv b.lanes] ∧ i64B b.w.lo ∧ i64B b.w.hi ∧ i64B b.lanes ∧ True) :=
  (Opn_parts (P := Tryd.prog) (w := w) [⟨0, 43, 2, (fun cs => ∃ (b : Span), cs = [iv b.lo, iv b.hi] ∧ i64B b.lo ∧ i64B b.hi ∧ True)⟩, ⟨2, 3, 1, (fun cs => ∃ (b : Int), cs = [iv b] ∧ i64B b ∧ True)⟩] 3 Tryd.underlying61 (by kernel_rfl) (by kernel_rfl) ⟨opn43, opn3, trivial⟩).mono fun cs h => by
    obtain ⟨hl, ⟨b0, e0, f0_0, f0_1, _⟩, ⟨b1, e1, f1_0, _⟩, _⟩ := h
    exact ⟨(⟨b0, b1⟩ : Load), (tl 0 2 cs).trans (app_eq e0 ((tl 2 1 cs).trans (app_eq e1 (tlz hl)))), f0_0, f0_1, f1_0, trivial⟩
theorem opn22 {w : World} : Opn Tryd.prog w 22 (fun cs => ∃ (g0 : Value) (b : List Load), cs = [g0] ∧ (Reads w g0 3 b encLoad zLoad ∧ (∀ a ∈ b, i64B a.w.lo ∧ i64B a.w.hi ∧ i64B a.lanes) ∧ b.length * 24 ≤ reachBytes) ∧ True) := (Opn_slice (encA := encLoad) (z := zLoad) (ok := (fun a : Load => i64B a.w.lo ∧ i64B a.w.hi ∧ i64B a.lanes)) (sz := 3) Tryd.underlying22 (by kernel_rfl) (opn61.mono fun cs ⟨a, h1, k0, k1, k2, _⟩ => ⟨a, h1, ⟨k0, k1, k2⟩⟩)).mono fun cs ⟨v, l, h1, h2, h3, h4⟩ => ⟨v, l, h1, ⟨h2, h3, h4⟩, trivial⟩
theorem opn24 {w : World} : Opn Tryd.prog w 24 (fun cs => ∃ (g0 : Value) (b : DBook), cs = [g0, iv b.rule, iv b.most] ∧ (Reads w g0 3 b.loads encLoad zLoad ∧ (∀ a ∈ b.loads, i64B a.w.lo ∧ i64B a.w.hi ∧ i64B a.lanes) ∧ b.loads.length * 24 ≤ reachBytes) ∧ i64B b.rule ∧ i64B b.most ∧ True) :=
  (Opn_parts (P := Tryd.prog) (w := w) [⟨0, 22, 1, (fun cs => ∃ (g0 : Value) (b : List Load), cs = [g0] ∧ (Reads w g0 3 b encLoad zLoad ∧ (∀ a ∈ b, i64B a.w.lo ∧ i64B a.w.hi ∧ i64B a.lanes) ∧ b.length * 24 ≤ reachBytes) ∧ True)⟩, ⟨1, 3, 1, (fun cs => ∃ (b : Int), cs = [iv b] ∧ i64B b ∧ True)⟩, ⟨2, 3, 1, (fun cs => ∃ (b : Int), cs = [iv b] ∧ i64B b ∧ True)⟩] 3 Tryd.underlying24 (by kernel_rfl) (by kernel_rfl) ⟨opn22, opn3, opn3, trivial⟩).mono fun cs h => by
    obtain ⟨hl, ⟨p0_0, b0, e0, f0_0, _⟩, ⟨b1, e1, f1_0, _⟩, ⟨b2, e2, f2_0, _⟩, _⟩ := h
    exact ⟨p0_0, (⟨b0, b1, b2⟩ : DBook), (tl 0 1 cs).trans (app_eq e0 ((tl 1 1 cs).trans (app_eq e1 ((tl 2 1 cs).trans (app_eq e2 (tlz hl)))))), f0_0, f1_0, f2_0, trivial⟩
theorem opn33 {w : World} : Opn Tryd.prog w 33 (fun cs => ∃ (g0 : Value) (b : List Int), cs = [g0] ∧ (Reads w g0 1 b encI 0 ∧ (∀ a ∈ b, i64B a) ∧ b.length * 8 ≤ reachBytes) ∧ True) := (Opn_slice (encA := encI) (z := 0) (ok := (fun a : Int => i64B a)) (sz := 1) Tryd.underlying33 (by kernel_rfl) (opn3.mono fun cs ⟨a, h1, k0, _⟩ => ⟨a, h1, k0⟩)).mono fun cs ⟨v, l, h1, h2, h3, h4⟩ => ⟨v, l, h1, ⟨h2, h3, h4⟩, trivial⟩
theorem own : ownKnob Tryd.prog.godebug = none := by kernel_rfl
theorem laidOut : laidOutB Tryd.prog = true := by kernel_rfl
theorem gLanes : Tryd.prog.globalNamed "prow/deck.lanes" = some 0 := by kernel_rfl
theorem tLanes : (Tryd.prog.globals[0]?).map (·.type) = some 127 := by kernel_rfl
theorem gNob : Tryd.prog.globalNamed "prow/deck.nobody" = some 1 := by kernel_rfl
theorem tNob : (Tryd.prog.globals[1]?).map (·.type) = some 65 := by kernel_rfl
theorem int_of_trod {H : Type} {enc : TypeId × Value → H} {Pr : Program} {w : World} {base : Nat} {sp : Nat → Bool} {held : Bool} {fuel : Nat} {t : TypeId} {k : IntKind} {n : Int} {v : Value} {q : List MemPlace} (ht : Pr.underlying t = some (.int k)) (h : DataW.trod enc Pr w base sp held fuel t [v] = some (.lit (.int k n), q)) : v = .int k n := by
  cases fuel with
  | zero => cases h
  | succ m =>
    simp only [DataW.trod, ht] at h
    cases v <;> simp at h
    rename_i k' n'
    obtain ⟨⟨h1, h2⟩, h3⟩ := h
    first | (obtain ⟨h4, _⟩ := h3; subst h1; rw [h4]) | (subst h1; simp_all)
theorem deck_of {W : World} (hS : W.ShapedOpen Tryd.prog) (h : laidMetH Tryd.prog [("prow/deck.lanes", Rows.laid_prow_deck_lanes), ("prow/deck.nobody", Rows.laid_prow_deck_nobody)] W) : NobodyAt W ∧ LanesAt W := by
  constructor
  · have h1 : laidMet Tryd.prog [("prow/deck.nobody", Rows.laid_prow_deck_nobody)] W := by
      have h2 : laidMet Tryd.prog [("prow/deck.nobody", Rows.laid_prow_deck_nobody)] W ∧ handlesMet Tryd.prog [("prow/deck.lanes", Rows.laid_prow_deck_lanes)] W := h
      exact h2.1
    obtain ⟨ps, ⟨g, t, cs, fuel, p, q, hg, ht, hv, hd, _⟩, _⟩ := h1
    obtain rfl := Option.some.inj (gNob.symm.trans hg)
    obtain rfl := Option.some.inj (tNob.symm.trans ht)
    obtain ⟨c, hc, hsz, _⟩ := hS.1 1 #[.int .i64 0, .int .i64 0] 65 (Nat.le_of_ble_eq_true (by kernel_rfl)) (by kernel_rfl)
    have hcs : ∀ i : Nat, W.cell? ⟨1, i, none⟩ = cs[i]? := fun i => World.var?_cell hg hv i
    have hcc : ∀ i : Nat, W.cell? ⟨1, i, none⟩ = c[i]? := fun i => cell_of_row W 1 _ _ _ _ hc
    have hd' : DataW.trod (fun _ => ()) Tryd.prog W 0 (fun _ => true) false fuel 65 cs.toList = some (.agg [.lit (.int .i64 (-1)), .lit (.int .i64 0)], p) := hd
    cases fuel with
    | zero => cases hd'
    | succ n =>
      simp only [DataW.trod, Tryd.underlying65] at hd'
      split at hd'
      · rename_i hl
        obtain ⟨xs, hxs, he⟩ := Option.map_eq_some_iff.1 hd'
        have hl2 : cs.toList.length = 2 := hl.trans (by kernel_rfl)
        have hk : Tryd.prog.cellsOf 3 = 1 := by kernel_rfl
        simp only [Prod.mk.injEq, DataW.agg.injEq] at he
        obtain ⟨y0, hy0, hx0⟩ := mapM_get hxs 0 _ rfl
        obtain ⟨y1, hy1, hx1⟩ := mapM_get hxs 1 _ rfl
        have h0 : y0.1 = .lit (.int .i64 (-1)) := by
          have := congrArg (fun l => l[0]?) he.1
          simp only [List.getElem?_map, hx0, Option.map_some] at this
          exact Option.some.inj this
        have h1 : y1.1 = .lit (.int .i64 0) := by
          have := congrArg (fun l => l[1]?) he.1
          simp only [List.getElem?_map, hx1, Option.map_some] at this
          exact Option.some.inj this
        simp only [hk] at hy0 hy1
        match hcl : cs.toList, hl2 with
        | [u0, u1], _ =>
          rw [hcl] at hy0 hy1
          have hu0 : DataW.trod (fun _ => ()) Tryd.prog W 0 (fun _ => true) false n 3 [u0] = some (.lit (.int .i64 (-1)), y0.2) := by rw [← h0]; exact hy0
          have hu1 : DataW.trod (fun _ => ()) Tryd.prog W 0 (fun _ => true) false n 3 [u1] = some (.lit (.int .i64 0), y1.2) := by rw [← h1]; exact hy1
          obtain rfl := int_of_trod Tryd.underlying3 hu0
          obtain rfl := int_of_trod Tryd.underlying3 hu1
          unfold NobodyAt
          rw [hc]
          have e0 := hcc 0
          have e1 := hcc 1
          rw [hcs 0, ← Array.getElem?_toList, hcl] at e0
          rw [hcs 1, ← Array.getElem?_toList, hcl] at e1
          have : c = #[iv (-1), iv 0] := by
            have hs2 : c.size = 2 := hsz
            apply Array.ext
            · rw [hs2]; rfl
            · intro i h1 h2
              rw [hs2] at h1
              have : i = 0 ∨ i = 1 := by omega
              rcases this with rfl | rfl
              · have := e0.symm; rw [Array.getElem?_eq_getElem (by omega)] at this; exact Option.some.inj this
              · have := e1.symm; rw [Array.getElem?_eq_getElem (by omega)] at this; exact Option.some.inj this
          rw [this]
      · cases hd'
  · obtain ⟨g, t, cs, fuel, p, hg, ht, hv, hd⟩ := h.funcs List.mem_cons_self
    obtain rfl := Option.some.inj (gLanes.symm.trans hg)
    obtain rfl := Option.some.inj (tLanes.symm.trans ht)
    obtain ⟨c, hc, hsz, _⟩ := hS.1 0 #[.nilFunc, .nilFunc, .nilFunc] 127 (Nat.le_of_ble_eq_true (by kernel_rfl)) (by kernel_rfl)
    have hcs : ∀ i : Nat, W.cell? ⟨0, i, none⟩ = cs[i]? := fun i => World.var?_cell hg hv i
    have hcc : ∀ i : Nat, W.cell? ⟨0, i, none⟩ = c[i]? := fun i => cell_of_row W 0 _ _ _ _ hc
    have hd' : DataW.trod (funcToken Tryd.prog) Tryd.prog W 0 (fun _ => true) true fuel 127 cs.toList = some (.agg [.held [40, 112, 114, 111, 119, 47, 100, 101, 99, 107, 46, 108, 105, 115, 116, 41, 46, 112, 111, 114, 116], .held [40, 112, 114, 111, 119, 47, 100, 101, 99, 107, 46, 108, 105, 115, 116, 41, 46, 109, 105, 100, 100, 108, 101], .held [40, 112, 114, 111, 119, 47, 100, 101, 99, 107, 46, 108, 105, 115, 116, 41, 46, 115, 116, 97, 114]], p) := hd
    cases fuel with
    | zero => cases hd'
    | succ n =>
      simp only [DataW.trod, Tryd.underlying127] at hd'
      split at hd'
      · rename_i hl
        obtain ⟨xs, hxs, he⟩ := Option.map_eq_some_iff.1 hd'
        have hl2 : cs.toList.length = 3 := hl.trans (by kernel_rfl)
        have hk : Tryd.prog.cellsOf 126 = 1 := by kernel_rfl
        simp only [Prod.mk.injEq, DataW.agg.injEq] at he
        obtain ⟨y0, hy0, hx0⟩ := mapM_get hxs 0 0 rfl
        obtain ⟨y1, hy1, hx1⟩ := mapM_get hxs 1 1 rfl
        obtain ⟨y2, hy2, hx2⟩ := mapM_get hxs 2 2 rfl
        have h0 : y0.1 = .held [40, 112, 114, 111, 119, 47, 100, 101, 99, 107, 46, 108, 105, 115, 116, 41, 46, 112, 111, 114, 116] := by
          have := congrArg (fun l => l[0]?) he.1
          simp only [List.getElem?_map, hx0, Option.map_some] at this
          exact Option.some.inj this
        have h1 : y1.1 = .held [40, 112, 114, 111, 119, 47, 100, 101, 99, 107, 46, 108, 105, 115, 116, 41, 46, 109, 105, 100, 100, 108, 101] := by
          have := congrArg (fun l => l[1]?) he.1
          simp only [List.getElem?_map, hx1, Option.map_some] at this
          exact Option.some.inj this
        have h2 : y2.1 = .held [40, 112, 114, 111, 119, 47, 100, 101, 99, 107, 46, 108, 105, 115, 116, 41, 46, 115, 116, 97, 114] := by
          have := congrArg (fun l => l[2]?) he.1
          simp only [List.getElem?_map, hx2, Option.map_some] at this
          exact Option.some.inj this
        rw [hk] at hy0 hy1 hy2
        match hcl : cs.toList, hl2 with
        | [u0, u1, u2], _ =>
          rw [hcl] at hy0 hy1 hy2
          have hu0 : DataW.trod (funcToken Tryd.prog) Tryd.prog W 0 (fun _ => true) true n 126 [u0] = some (.held [40, 112, 114, 111, 119, 47, 100, 101, 99, 107, 46, 108, 105, 115, 116, 41, 46, 112, 111, 114, 116], y0.2) := by rw [← h0]; exact hy0
          have hu1 : DataW.trod (funcToken Tryd.prog) Tryd.prog W 0 (fun _ => true) true n 126 [u1] = some (.held [40, 112, 114, 111, 119, 47, 100, 101, 99, 107, 46, 108, 105, 115, 116, 41, 46, 109, 105, 100, 100, 108, 101], y1.2) := by rw [← h1]; exact hy1
          have hu2 : DataW.trod (funcToken Tryd.prog) Tryd.prog W 0 (fun _ => true) true n 126 [u2] = some (.held [40, 112, 114, 111, 119, 47, 100, 101, 99, 107, 46, 108, 105, 115, 116, 41, 46, 115, 116, 97, 114], y2.2) := by rw [← h2]; exact hy2
          obtain rfl := Go.func_of_trod (f0 := 147) Tryd.underlying126 (by kernel_rfl) hu0
          obtain rfl := Go.func_of_trod (f0 := 145) Tryd.underlying126 (by kernel_rfl) hu1
          obtain rfl := Go.func_of_trod (f0 := 148) Tryd.underlying126 (by kernel_rfl) hu2
          unfold LanesAt
          rw [hc]
          have e0 := hcc 0
          have e1 := hcc 1
          have e2 := hcc 2
          rw [hcs 0, ← Array.getElem?_toList, hcl] at e0
          rw [hcs 1, ← Array.getElem?_toList, hcl] at e1
          rw [hcs 2, ← Array.getElem?_toList, hcl] at e2
          have : c = #[.func (.func 147) #[] #[], .func (.func 145) #[] #[], .func (.func 148) #[] #[]] := by
            have hs2 : c.size = 3 := hsz
            apply Array.ext
            · rw [hs2]; rfl
            · intro i h1 h2
              rw [hs2] at h1
              have : i = 0 ∨ i = 1 ∨ i = 2 := by omega
              rcases this with rfl | rfl | rfl
              · have := e0.symm; rw [Array.getElem?_eq_getElem (by omega)] at this; exact Option.some.inj this
              · have := e1.symm; rw [Array.getElem?_eq_getElem (by omega)] at this; exact Option.some.inj this
              · have := e2.symm; rw [Array.getElem?_eq_getElem (by omega)] at this; exact Option.some.inj this
          rw [this]
      · cases hd'
end Go.Proofs.YthfnedbpmdkdjaaDoor.D
namespace Go.Proofs.YthfnedbpmdkdjaaDoor.D
open Go Go.RowKit Go.Proofs.YthfnedbpmdkdjaaDoor.Eng Go.Proofs.YthfnedbpmdkdjaaDoor.Cm
set_option linter.unusedVariables false
set_option linter.unusedSimpArgs false
set_option linter.unusedSectionVars false
theorem sound_eq (b : DBook) : soundL b = ((((((checkD b) == 0) && (insideF (b.loads.length : Int) 1 5)) && (insideF b.rule 0 30)) && (insideF b.most 1 200)) && (List.range b.loads.length).all fun k => (validF (b.loads.getD k zLoad).w 1 60) && (insideF (b.loads.getD k zLoad).lanes 1 7)) := by
  unfold soundL
  rw [loopR_all (fun k => (validF (b.loads.getD k zLoad).w 1 60) && (insideF (b.loads.getD k zLoad).lanes 1 7)) (fun k v hk => by simp only [soundL_c1]; rw [decide_eq_true (by omega), Bool.and_true]) (fun k hk => rfl)]
theorem sound_iff {b : DBook} : soundL b = true ↔ ValidD b := by
  rw [sound_eq]
  simp only [Bool.and_eq_true, List.all_eq_true, List.mem_range, beq_iff_eq]
  constructor
  · rintro ⟨⟨⟨⟨h, _⟩, _⟩, _⟩, _⟩
    exact checkD_valid.1 h
  · intro h
    refine ⟨⟨⟨⟨checkD_valid.2 h, ?_⟩, ?_⟩, ?_⟩, fun k hk => ?_⟩
    · have := h.n; simp only [insideF, Bool.and_eq_true, decide_eq_true_eq]; omega
    · have := h.rule; simp only [insideF, Bool.and_eq_true, decide_eq_true_eq]; omega
    · have := h.most; simp only [insideF, Bool.and_eq_true, decide_eq_true_eq]; omega
    · have := h.load hk
      simp only [insideF, validF, Bool.and_eq_true, decide_eq_true_eq]; omega
theorem sound_valid {b : DBook} (h : (!(soundL b)) = false) : ValidD b := sound_iff.1 (by simpa using h)
theorem members_eq (s : Int) (n : Nat) : membersF s (n : Int) = ((List.range n).filter fun k : Nat => memberF s k).map fun k : Nat => (k : Int) := by
  unfold membersF
  rw [show (n : Int).toNat = n by omega, loopR_app (fun k : Nat => bif memberF s k then [(k : Int)] else []) (fun k v hk => by simp only [membersF_c1]; rw [decide_eq_true]; omega) (fun k v hk => by
    simp only [membersF_b1]
    cases memberF s (k : Int) <;> simp)]
  simp only [List.nil_append]
  induction List.range n with
  | nil => rfl
  | cons x r ih =>
    rw [List.flatMap_cons, ih, List.filter_cons]
    cases memberF s (x : Int) <;> simp
theorem members_mem {s : Int} {n : Nat} {x : Int} : x ∈ membersF s (n : Int) ↔ 0 ≤ x ∧ x < n ∧ memberF s x = true := by
  rw [members_eq]
  simp only [List.mem_map, List.mem_filter, List.mem_range]
  constructor
  · rintro ⟨k, ⟨h1, h2⟩, rfl⟩
    exact ⟨by omega, by omega, h2⟩
  · rintro ⟨h1, h2, h3⟩
    exact ⟨x.toNat, ⟨by omega, by rw [show ((x.toNat : Nat) : Int) = x by omega]; exact h3⟩, by omega⟩
theorem members_len (s : Int) (n : Nat) : (membersF s (n : Int)).length ≤ n := by
  rw [members_eq, List.length_map]
  exact Nat.le_trans (List.length_filter_le _ _) (by simp)
theorem chosen_mem {b : DBook} {n x : Int} (h : x ∈ chosenL b n) : 0 ≤ x ∧ x < b.loads.length := by
  unfold chosenL at h
  have := members_mem.1 h
  exact ⟨this.1, this.2.1⟩
theorem chosen_len (b : DBook) (n : Int) : (chosenL b n).length ≤ b.loads.length := members_len _ _
theorem erase_perm : ∀ (l : List Int) (i : Nat) (h : i < l.length), (l[i] :: l.eraseIdx i).Perm l
  | x :: r, 0, h => List.Perm.refl _
  | x :: r, i + 1, h => by
    simp only [List.getElem_cons_succ, List.eraseIdx_cons_succ]
    exact (List.Perm.swap _ _ _).trans ((erase_perm r i (by simpa using h)).cons x)
theorem drawn_spec {b : DBook} {loads bits : List Int} (hll : loads.length ≤ 5) : ((drawnL b loads bits).map (·.load)).Perm loads ∧ ∀ x ∈ drawnL b loads bits, ∃ q, x.lane = chooseF (membersF (b.loads.getD x.load.toNat zLoad).lanes 3) q := by
  have hk := loopR_keep (c := drawnL_c1 b loads bits) (b := drawnL_b1 b loads bits) (N := loads.length) (fun k v => v.1.length + k = loads.length ∧ (v.2.map (·.load) ++ v.1).Perm loads ∧ ∀ x ∈ v.2, ∃ q, x.lane = chooseF (membersF (b.loads.getD x.load.toNat zLoad).lanes 3) q) (fun _ => False) (fun k v hk hp => by
    obtain ⟨v1, v2⟩ := v
    have h1 : v1.length + k = loads.length := hp.1
    simp only [drawnL_c1]; rw [decide_eq_true]; omega) (fun k v hk hp => by
    obtain ⟨v1, v2⟩ := v
    have h1 : v1.length + k = loads.length := hp.1
    have hat := modF_in (chooseF bits (v2.length : Int)) (v1.length : Int) (by omega) (by omega)
    refine .inl ⟨_, rfl, by have := dropped_len hat; simp only; omega, ?_, fun x hx => ?_⟩
    · have h2 : (v2.map (·.load) ++ v1).Perm loads := hp.2.1
      refine List.Perm.trans ?_ h2
      simp only [List.map_append, List.map_cons, List.map_nil, List.append_assoc]
      refine List.Perm.append_left _ ?_
      rw [dropped_eq hat.1]
      simp only [placeL, List.singleton_append]
      have hlt : (modF (chooseF bits (v2.length : Int)) (v1.length : Int)).toNat < v1.length := by omega
      rw [List.getD_eq_getElem?_getD, List.getElem?_eq_getElem hlt]
      exact erase_perm v1 _ hlt
    · rcases List.mem_append.1 hx with hx | hx
      · exact hp.2.2 x hx
      · rw [List.mem_singleton.1 hx]
        exact ⟨_, rfl⟩) (([] : List Int) ++ loads, []) ⟨by simp, by simp, fun x hx => by cases hx⟩
  unfold drawnL
  rcases hk with ⟨v, e, h⟩ | ⟨r, e, h⟩
  · rw [e]
    have h0 : v.1 = [] := List.length_eq_zero_iff.1 (by have := h.1; omega)
    have h2 := h.2.1
    rw [h0, List.append_nil] at h2
    exact ⟨h2, h.2.2⟩
  · exact h.elim
theorem drawn_mem {b : DBook} {loads bits : List Int} (hll : loads.length ≤ 5) (hl : ∀ x ∈ loads, 0 ≤ x ∧ x < b.loads.length) : ∀ x ∈ drawnL b loads bits, 0 ≤ x.load ∧ x.load < b.loads.length := fun x hx =>
  hl _ ((drawn_spec hll).1.mem_iff.1 (List.mem_map.2 ⟨x, hx, rfl⟩))
theorem drawn_len {b : DBook} {loads bits : List Int} (hll : loads.length ≤ 5) : (drawnL b loads bits).length = loads.length := by
  have := (drawn_spec (b := b) (bits := bits) hll).1.length_eq
  rwa [List.length_map] at this
theorem pow_small {n : Nat} (h : n ≤ 5) : IntKind.i64.wrap (1 * 2 ^ (min (n : Int).toNat IntKind.i64.bits)) = ((2 ^ n : Nat) : Int) := by
  have : n = 0 ∨ n = 1 ∨ n = 2 ∨ n = 3 ∨ n = 4 ∨ n = 5 := by omega
  rcases this with rfl | rfl | rfl | rfl | rfl | rfl <;> decide
theorem truly_len (b : DBook) (bits : List Int) : (trulyL b bits).length = b.loads.length := by
  unfold trulyL
  rw [loopR_app (c := trulyL_c1 b bits) (b := trulyL_b1 b bits) (fun k : Nat => [(withF (b.loads.getD k zLoad).w (IntKind.i64.wrap ((chooseF bits (k : Int)) + (chooseF bits (IntKind.i64.wrap ((k : Int) + 1))))))]) (fun k v hk => by simp only [trulyL_c1]; rw [decide_eq_true]; omega) (fun k v hk => rfl)]
  rw [List.nil_append, ← List.map_eq_flatMap]
  simp
end Go.Proofs.YthfnedbpmdkdjaaDoor.D
namespace Go.Proofs.YthfnedbpmdkdjaaDoor.D
open Go Go.RowKit Go.Proofs.YthfnedbpmdkdjaaDoor.Eng Go.Proofs.YthfnedbpmdkdjaaDoor.Cm
set_option linter.unusedVariables false
set_option linter.unusedSimpArgs false
set_option linter.unusedSectionVars false
def M (n s : Nat) : List Int := membersF (s : Int) (n : Int)
def all6 (p : Nat → Nat → Bool) : Bool := (List.range 6).all fun n => (List.range (2 ^ n)).all fun s => p n s
theorem all6_spec {p : Nat → Nat → Bool} (h : all6 p = true) {n s : Nat} (hn : n ≤ 5) (hs : s < 2 ^ n) : p n s = true :=
  List.all_eq_true.1 (List.all_eq_true.1 h n (List.mem_range.2 (by omega))) s (List.mem_range.2 hs)
theorem lift_all : all6 (fun n s => M n s == M 5 s) = true := by kernel_rfl
theorem pow_lt {n s : Nat} (hn : n ≤ 5) (hs : s < 2 ^ n) : s < 32 := by
  have := pow_le5 hn; omega
theorem lift {n s : Nat} (hn : n ≤ 5) (hs : s < 2 ^ n) : M n s = M 5 s := eq_of_beq (all6_spec lift_all hn hs)
structure Climb (n : Nat) (l : List Int) : Prop where
  rng : ∀ x ∈ l, 0 ≤ x ∧ x < n
  up : l.Pairwise (· < ·)
theorem M_climb (n s : Nat) : Climb n (M n s) := by
  refine ⟨fun x hx => ?_, ?_⟩
  · have := members_mem.1 hx
    exact ⟨this.1, this.2.1⟩
  · unfold M
    rw [members_eq]
    rw [List.pairwise_map]
    exact (List.pairwise_lt_range.filter _).imp fun h => by omega
theorem chosen_M {b : DBook} (hv : ValidD b) (n : Int) : ∃ s, s < 2 ^ b.loads.length ∧ chosenL b n = M b.loads.length s := by
  have hp := pow_small hv.n.2
  have hpos : 0 < 2 ^ b.loads.length := Nat.pow_pos (by decide)
  have hpl := pow_le5 hv.n.2
  have hm := modF_in n ((2 ^ b.loads.length : Nat) : Int) (by omega) (by omega)
  refine ⟨(modF n ((2 ^ b.loads.length : Nat) : Int)).toNat, by omega, ?_⟩
  unfold chosenL M
  rw [hp, show (((modF n ((2 ^ b.loads.length : Nat) : Int)).toNat : Nat) : Int) = modF n ((2 ^ b.loads.length : Nat) : Int) by omega]
end Go.Proofs.YthfnedbpmdkdjaaDoor.D
namespace Go.Proofs.YthfnedbpmdkdjaaDoor.D
open Go Go.RowKit Go.Proofs.YthfnedbpmdkdjaaDoor.Eng Go.Proofs.YthfnedbpmdkdjaaDoor.Cm
set_option linter.unusedVariables false
set_option linter.unusedSimpArgs false
set_option linter.unusedSectionVars false
def okP (b : DBook) (l : Span) (k q : Nat) : Bool := isPl b k q && !decide (levelD b (laneF (q : Int) l (b.loads.getD k zLoad).w) < 2)
def nextP (b : DBook) (F : List Place → Span → Int → List Place × Bool) (on : List Place) (l : Span) (left : Int) (k q : Nat) : List Place × Bool := F (on ++ [(⟨(k : Int), (q : Int)⟩ : Place)]) (laneF (q : Int) l (b.loads.getD k zLoad).w) (offI left k)
def g2 (b : DBook) (F : List Place → Span → Int → List Place × Bool) (on : List Place) (l : Span) (left : Int) (k q : Nat) : Option (List Place × Bool) := bif okP b l k q && (nextP b F on l left k q).2 then some ((nextP b F on l left k q).1, true) else none
def g1 (b : DBook) (F : List Place → Span → Int → List Place × Bool) (on : List Place) (l : Span) (left : Int) (k : Nat) : Option (List Place × Bool) := if (bitI left k == 0) = true then none else (List.range 3).findSome? (g2 b F on l left k)
end Go.Proofs.YthfnedbpmdkdjaaDoor.D
namespace Go.Proofs.YthfnedbpmdkdjaaDoor.D
open Go Go.RowKit Go.Proofs.YthfnedbpmdkdjaaDoor.Eng Go.Proofs.YthfnedbpmdkdjaaDoor.Cm
set_option linter.unusedVariables false
set_option linter.unusedSimpArgs false
set_option linter.unusedSectionVars false
def z0 (s k : Nat) : Bool := bitI (s : Int) k == 0
theorem mem_bits_all : ((List.range 32).all fun s => (List.range 5).all fun j => memberF (s : Int) (j : Int) == !(z0 s j)) = true := by kernel_rfl
theorem all2 {p : Nat → Nat → Bool} {m n : Nat} (h : ((List.range m).all fun s => (List.range n).all fun k => p s k) = true) {s k : Nat} (hs : s < m) (hk : k < n) : p s k = true := List.all_eq_true.1 (List.all_eq_true.1 h s (List.mem_range.2 hs)) k (List.mem_range.2 hk)
theorem castN {s : Int} (h : 0 ≤ s) : ((s.toNat : Nat) : Int) = s := by omega
theorem mem_bits {s : Int} {j : Nat} (h : 0 ≤ s ∧ s < 32) (hj : j < 5) : memberF s (j : Int) = !(bitI s j == 0) := by
  have h1 := all2 mem_bits_all (s := s.toNat) (k := j) (by omega) hj
  simp only [z0, castN h.1] at h1
  exact eq_of_beq h1
structure SetIs (s : Int) (ls : List Int) : Prop where
  nd : ls.Nodup
  rng : ∀ x ∈ ls, 0 ≤ x ∧ x < 5
  mem : ∀ k : Nat, k < 5 → ((bitI s k == 0) = false ↔ (k : Int) ∈ ls)
def SureL (b : DBook) : Span → List Place → Prop
  | _, [] => True
  | l, x :: xs => decide (levelD b (stepD b l x) < 2) = false ∧ SureL b (stepD b l x) xs
theorem sure_take {b : DBook} : ∀ (xs : List Place) (l : Span), SureL b l xs ↔ ∀ k, k < xs.length → decide (levelD b ((xs.take (k + 1)).foldl (stepD b) l) < 2) = false := by
  intro xs
  induction xs with
  | nil => intro l; exact ⟨fun _ k hk => by simp at hk, fun _ => trivial⟩
  | cons x xs ih =>
    intro l
    constructor
    · rintro ⟨h1, h2⟩ k hk
      cases k with
      | zero => exact h1
      | succ k => exact (ih _).1 h2 k (by simpa using hk)
    · intro h
      exact ⟨h 0 (by simp), (ih _).2 fun k hk => h (k + 1) (by simpa using hk)⟩
theorem tilt_sure {b : DBook} {on : List Place} : tiltQ b on = none ↔ SureL b zSpan on := by
  rw [sure_take]
  unfold tiltQ listsD preD
  rw [List.find?_eq_none]
  simp only [List.mem_map, List.mem_range]
  constructor
  · intro h k hk
    have := h _ ⟨k, hk, rfl⟩
    exact Bool.eq_false_iff.2 this
  · rintro h x ⟨k, hk, rfl⟩
    exact Bool.eq_false_iff.1 (h k hk)
theorem setIs_M {n s : Nat} (hn : n ≤ 5) (hs : s < 2 ^ n) : SetIs (s : Int) (M n s) := by
  have h32 := pow_lt hn hs
  have hlist : M n s = M 5 s := lift hn hs
  rw [hlist]
  refine ⟨(M_climb 5 s).up.imp fun h => by omega, fun x hx => by have := (M_climb 5 s).rng x hx; omega, fun k hk => ?_⟩
  unfold M
  rw [members_mem, mem_bits (by omega) hk, Bool.not_eq_true']
  exact ⟨fun h => ⟨by omega, by omega, h⟩, fun h => h.2.2⟩
theorem setIs_perm {s : Int} {l m : List Int} (h : SetIs s l) (hp : m.Perm l) : SetIs s m := ⟨hp.nodup_iff.2 h.nd, fun x hx => h.rng x (hp.mem_iff.1 hx), fun k hk => (h.mem k hk).trans hp.mem_iff.symm⟩
end Go.Proofs.YthfnedbpmdkdjaaDoor.D
namespace Go.Proofs.YthfnedbpmdkdjaaDoor.D
open Go Go.RowKit Go.Proofs.YthfnedbpmdkdjaaDoor.Eng Go.Proofs.YthfnedbpmdkdjaaDoor.Cm
set_option linter.unusedVariables false
set_option linter.unusedSimpArgs false
set_option linter.unusedSectionVars false
theorem ask_ok {b : DBook} (hv : ValidD b) {on : List Place} (h : StowOk b on) : askD b on = 0 := by
  unfold askD
  rw [(isStowD_iff hv.n.2).2 h]; rfl
theorem tiltsA_eq {b : DBook} (hv : ValidD b) {on : List Place} (h : StowOk b on) : tiltsA b on = match tiltQ b on with | some y => (y.1, 0) | none => (0, 4) := by
  unfold tiltsA
  rw [checkD_valid.2 hv, ask_ok hv h]; rfl
theorem listA_eq {b : DBook} (hv : ValidD b) {on : List Place} (h : StowOk b on) : listA b on = (lastS (listsD b on), 0) := by
  unfold listA
  rw [checkD_valid.2 hv, ask_ok hv h]; rfl
theorem levelA_eq {b : DBook} (hv : ValidD b) {on : List Place} (h : StowOk b on) : levelA b on = (levelD b (lastS (listsD b on)), 0) := by
  unfold levelA
  rw [checkD_valid.2 hv, ask_ok hv h]; rfl
theorem lanes_all : ((List.range 8).all fun m => m == 0 || !((membersF (m : Int) 3).length == 0)) = true := by kernel_rfl
theorem choose_mem {l : List Int} (h : 0 < l.length) (hl : l.length ≤ 100) (q : Int) : chooseF l q ∈ l := by
  unfold chooseF
  rw [show ((l.length : Int) == 0) = false from beq_eq_false_iff_ne.2 (by omega), cond_false]
  have := modF_in q (l.length : Int) (by omega) (by omega)
  exact getD_mem (by omega)
theorem drawn_ok {b : DBook} (hv : ValidD b) {s : Nat} (hs : s < 2 ^ b.loads.length) (bits : List Int) : StowOk b (drawnL b (M b.loads.length s) bits) ∧ SetIs (s : Int) ((drawnL b (M b.loads.length s) bits).map (·.load)) := by
  have hl5 : (M b.loads.length s).length ≤ 5 := Nat.le_trans (members_len _ _) hv.n.2
  obtain ⟨hp, hq⟩ := drawn_spec (b := b) (bits := bits) hl5
  have hset := setIs_perm (setIs_M hv.n.2 hs) hp
  refine ⟨⟨fun x hx => ?_, hset.nd⟩, hset⟩
  have hm := (M_climb b.loads.length s).rng _ (hp.mem_iff.1 (List.mem_map.2 ⟨x, hx, rfl⟩))
  obtain ⟨q, hq⟩ := hq x hx
  have hld := (hv.load (k := x.load.toNat) (by omega)).2
  have h1 := List.all_eq_true.1 lanes_all (b.loads.getD x.load.toNat zLoad).lanes.toNat (List.mem_range.2 (by omega))
  rw [castN (by omega)] at h1
  have h2 : 0 < (membersF (b.loads.getD x.load.toNat zLoad).lanes 3).length := by
    rcases Nat.eq_zero_or_pos (membersF (b.loads.getD x.load.toNat zLoad).lanes 3).length with h | h
    · rw [h, show ((b.loads.getD x.load.toNat zLoad).lanes.toNat == 0) = false from beq_eq_false_iff_ne.2 (by omega)] at h1
      simp at h1
    · exact h
  have h3 := choose_mem h2 (Nat.le_trans (members_len _ 3) (by decide)) q
  rw [← hq] at h3
  have h4 := (members_mem (n := 3)).1 h3
  unfold isPl
  rw [decide_eq_true hm.1, decide_eq_true hm.2, decide_eq_true h4.1, decide_eq_true (show x.lane < 3 by have := h4.2.1; omega)]
  exact h4.2.2
theorem list_range {α : Type} (l : List α) (z : α) : (List.range l.length).map (fun k => l.getD k z) = l := by
  apply List.ext_getElem
  · simp
  · intro j h1 h2
    simp [List.getD_eq_getElem?_getD, h2]
theorem range_fold {α β : Type} (l : List α) (z : α) (f : β → α → β) (v : β) : (List.range l.length).foldl (fun v k => f v (l.getD k z)) v = l.foldl f v := by
  conv => rhs; rw [← list_range l z]
  rw [List.foldl_map]
end Go.Proofs.YthfnedbpmdkdjaaDoor.D
namespace Go.Proofs.YthfnedbpmdkdjaaDoor.D
open Go Go.RowKit Go.Proofs.YthfnedbpmdkdjaaDoor.Eng Go.Proofs.YthfnedbpmdkdjaaDoor.Cm
set_option linter.unusedVariables false
set_option linter.unusedSimpArgs false
set_option linter.unusedSectionVars false
def leanF (u : List Int) (a : Int) (x : Place) : Int := bif x.lane == 0 then IntKind.i64.wrap (a + u.getD x.load.toNat 0) else bif x.lane == 2 then IntKind.i64.wrap (a - u.getD x.load.toNat 0) else a
theorem lean_eq (on : List Place) (u : List Int) : leanL on u = on.foldl (leanF u) 0 := by
  unfold leanL
  rw [loopR_foldl (c := leanL_c1 on u) (b := leanL_b1 on u) (fun k v => leanF u v (on.getD k zPlace)) (fun k v hk => by simp only [leanL_c1]; rw [decide_eq_true]; omega) (fun k v hk => rfl)]
  exact range_fold on zPlace (leanF u) 0
theorem acc_bounds {b : DBook} (hv : ValidD b) {on : List Place} (hpl : ∀ x ∈ on, isPl b x.load x.lane = true) (hlen : on.length ≤ 5) : ∀ k : Nat, k ≤ on.length → -60 * (k : Int) ≤ (accD b on k).lo ∧ (accD b on k).lo ≤ (accD b on k).hi ∧ (accD b on k).hi ≤ 60 * (k : Int) := by
  intro k
  induction k with
  | zero => intro _; exact ⟨by show _ ≤ (0 : Int); omega, Int.le_refl _, by show (0 : Int) ≤ _; omega⟩
  | succ k ih =>
    intro hk
    obtain ⟨h1, h2, h3⟩ := ih (by omega)
    have hs := isPl_spec (hpl _ (getD_mem (z := zPlace) (show k < on.length by omega)))
    have hw := (hv.load (k := (on.getD k zPlace).load.toNat) (by omega)).1
    rw [accD_succ (by omega)]
    unfold stepD laneF
    by_cases e0 : (on.getD k zPlace).lane = 0
    · rw [if_pos e0]
      simp only [portD]
      rw [wrapI (by omega) (by omega), wrapI (by omega) (by omega)]
      omega
    · rw [if_neg e0]
      by_cases e1 : (on.getD k zPlace).lane = 1
      · rw [if_pos e1]; simp only [middleD]; omega
      · rw [if_neg e1]
        simp only [starD]
        rw [wrapI (by omega) (by omega), wrapI (by omega) (by omega)]
        omega
theorem rule_wrap {b : DBook} (hv : ValidD b) : IntKind.i64.wrap (0 - b.rule) = -b.rule := by
  have := hv.rule
  rw [wrapI (by omega) (by omega)]; omega
theorem level_cases {b : DBook} (hv : ValidD b) {l : Span} (h : l.lo ≤ l.hi) : (levelD b l = 2 ∧ -b.rule ≤ l.lo ∧ l.hi ≤ b.rule) ∨ (levelD b l = 1 ∧ ¬ (-b.rule ≤ l.lo ∧ l.hi ≤ b.rule) ∧ l.lo ≤ b.rule ∧ -b.rule ≤ l.hi) ∨ (levelD b l = 0 ∧ ¬ (-b.rule ≤ l.lo ∧ l.hi ≤ b.rule) ∧ (b.rule < l.lo ∨ l.hi < -b.rule)) := by
  have hr := hv.rule
  unfold levelD
  rw [rule_wrap hv]
  by_cases h2 : -b.rule ≤ l.lo ∧ l.hi ≤ b.rule
  · left
    have : (withinD l.lo (-b.rule) b.rule && withinD l.hi (-b.rule) b.rule) = true := by simp only [withinD, Bool.and_eq_true, decide_eq_true_eq]; omega
    rw [this]; exact ⟨rfl, h2⟩
  · right
    have : (withinD l.lo (-b.rule) b.rule && withinD l.hi (-b.rule) b.rule) = false := by
      rw [Bool.eq_false_iff]; intro h3
      simp only [withinD, Bool.and_eq_true, decide_eq_true_eq] at h3; omega
    rw [this, cond_false]
    by_cases h1 : l.lo ≤ b.rule ∧ -b.rule ≤ l.hi
    · left
      rw [decide_eq_true h1.1, decide_eq_true (show l.hi ≥ -b.rule from h1.2)]
      exact ⟨rfl, h2, h1⟩
    · right
      have : (decide (l.lo ≤ b.rule) && decide (l.hi ≥ -b.rule)) = false := by
        rw [Bool.eq_false_iff]; intro h3
        simp only [Bool.and_eq_true, decide_eq_true_eq] at h3
        exact h1 h3
      rw [this]; exact ⟨rfl, h2, by omega⟩
theorem last_acc (b : DBook) (on : List Place) : lastS (listsD b on) = accD b on on.length := by
  unfold listsD
  cases h : on.length with
  | zero => rfl
  | succ n => rw [preD_succ, lastS_snoc]; rfl
theorem cut_take {α : Type} (l : List α) {k : Nat} : cut l 0 ((k : Nat) : Int) = l.take k := by simp [cut]
theorem acc_take (b : DBook) (on : List Place) {k : Nat} (h : k ≤ on.length) : accD b (on.take k) (on.take k).length = accD b on k := by
  unfold accD
  rw [List.take_of_length_le (Nat.le_refl _)]
theorem tilt_first {b : DBook} {on : List Place} {y : Int × Span} (h : tiltQ b on = some y) : ∃ i, i < on.length ∧ y.1 = (i : Int) ∧ decide (levelD b (accD b on (i + 1)) < 2) = true ∧ ∀ j, j < i → decide (levelD b (accD b on (j + 1)) < 2) = false := by
  unfold tiltQ listsD preD at h
  rw [List.find?_map] at h
  obtain ⟨i, hi, rfl⟩ := Option.map_eq_some_iff.1 h
  obtain ⟨h1, h2, h3⟩ := List.find?_range_eq_some.1 hi
  exact ⟨i, List.mem_range.1 h2, rfl, h1, fun j hj => by have h4 := h3 j hj; rw [Bool.not_eq_true'] at h4; exact h4⟩
theorem tilt_no {b : DBook} {on : List Place} (h : tiltQ b on = none) : ∀ j, j < on.length → decide (levelD b (accD b on (j + 1)) < 2) = false := by
  intro j hj
  have h1 := (tilt_sure (b := b) (on := on)).1 h
  exact (sure_take on zSpan).1 h1 j hj
theorem drawn_len5 {b : DBook} (hv : ValidD b) (s : Nat) (bits : List Int) : (drawnL b (M b.loads.length s) bits).length ≤ 5 := by
  have hl5 : (M b.loads.length s).length ≤ 5 := Nat.le_trans (members_len _ _) hv.n.2
  rw [drawn_len hl5]; exact hl5
end Go.Proofs.YthfnedbpmdkdjaaDoor.D
namespace Go.Proofs.YthfnedbpmdkdjaaDoor.D
open Go Go.RowKit Go.Proofs.YthfnedbpmdkdjaaDoor.Eng Go.Proofs.YthfnedbpmdkdjaaDoor.Cm
set_option linter.unusedVariables false
set_option linter.unusedSimpArgs false
set_option linter.unusedSectionVars false
def DeckEndsL_c1 (b : DBook) (bits : List Int) (n : Int) (k1 : Nat) : (Int × Int) → Bool := fun (v1_0, v1_1) => decide (v1_0 ≥ 0)
def DeckEndsL_b1 (b : DBook) (bits : List Int) (n : Int) (k1 : Nat) : (Int × Int) → Bd (Int × Int) Bool := fun (v1_0, v1_1) => .go (IntKind.i64.wrap (v1_0 - 1), bif (!(coversF (rangeF (IntKind.i64.wrap (0 - b.rule)) b.rule) (endsL b (cut (drawnL b (chosenL b n) bits) 0 (IntKind.i64.wrap (v1_0 + 1)))))) then v1_0 else v1_1)
def DeckEndsL (b : DBook) (bits : List Int) (n : Int) : Bool :=
  (bif !(soundL b) then stowedL else (match loopR (DeckEndsL_c1 b bits n) (DeckEndsL_b1 b bits n) (drawnL b (chosenL b n) bits).length 0 (IntKind.i64.wrap (((drawnL b (chosenL b n) bits).length : Int) - 1), -1) with | .brk (u1_0, u1_1) => (bif (((((listA b (drawnL b (chosenL b n) bits)).2 != 0) || ((levelA b (drawnL b (chosenL b n) bits)).2 != 0)) || (!((listA b (drawnL b (chosenL b n) bits)).1.lo == (endsL b (drawnL b (chosenL b n) bits)).lo && (listA b (drawnL b (chosenL b n) bits)).1.hi == (endsL b (drawnL b (chosenL b n) bits)).hi))) || (!(((levelA b (drawnL b (chosenL b n) bits)).1 == 2) == (coversF (rangeF (IntKind.i64.wrap (0 - b.rule)) b.rule) (endsL b (drawnL b (chosenL b n) bits)))))) || (!(((levelA b (drawnL b (chosenL b n) bits)).1 == 0) == ((decide ((endsL b (drawnL b (chosenL b n) bits)).lo > b.rule)) || (decide ((endsL b (drawnL b (chosenL b n) bits)).hi < (IntKind.i64.wrap (0 - b.rule))))))) then false else (bif decide (u1_1 < 0) then (((tiltsA b (drawnL b (chosenL b n) bits)).2 == 4) && ((tiltsA b (drawnL b (chosenL b n) bits)).1 == 0)) && stowedL else (((tiltsA b (drawnL b (chosenL b n) bits)).2 == 0) && ((tiltsA b (drawnL b (chosenL b n) bits)).1 == u1_1)) && stowedL)) | .ret r => r))
theorem DeckEndsL_calls (g0 g1 : Value) (b : DBook) (bits : List Int) (n : Int) (w : World) (r0 : Reads w g0 3 b.loads encLoad zLoad) (r1 : Reads w g1 1 bits encI 0) (hnb : NobodyAt w) (hla : LanesAt w) : Calls Tryd.prog 7 #[.agg #[g0, iv b.rule, iv b.most], g1, iv n] w fun e w' => e = .returned (.bool (DeckEndsL b bits n)) ∧ Below w.heap.size w w' := by
  refine calls_of_WP (cx := cx0 w (vn [g0, g1]) 2) (n := vn [g0, g1]) (vs := [.g [.ref 0, .int .i64 b.rule, .int .i64 b.most], .s (.ref 1), .s (.int .i64 n)]) (hp := [(0, .sl .ro 61 3 b.loads encLoad zLoad), (1, .sl .ro 3 1 bits encI 0), (2, .pf NobodyAt (· = 1)), (3, .pf LanesAt (· = 0))]) (nx := 4) tt_ok Tryd.func7 rfl rfl rfl (by kernel_rfl) (HSat_args (vn_one (by simp [r0.one, r1.one])) (by decide) ⟨⟨⟨fun _ => rfl, by decide, r0⟩, (Nat.le_of_ble_eq_true rfl)⟩, ⟨⟨fun _ => rfl, by decide, r1⟩, (Nat.le_of_ble_eq_true rfl)⟩, ⟨⟨hnb, fun w1 w2 h1 hw => (hw 1 rfl).trans h1, fun g hg => by cases hg; exact (Array.getElem?_eq_some_iff.1 hnb).1⟩, (Nat.le_of_ble_eq_true rfl)⟩, ⟨⟨hla, fun w1 w2 h1 hw => (hw 0 rfl).trans h1, fun g hg => by cases hg; exact (Array.getElem?_eq_some_iff.1 hla).1⟩, (Nat.le_of_ble_eq_true rfl)⟩, trivial⟩) (vsOk (by kernel_rfl)) ?_
  have hl0 := Reads.len r0
  have hl1 := Reads.len r1
  refine WP_seq (WP_region (WPO_all tt_ok (by kernel_rfl) ?_))
  refine WP_seq (WP_seq (WP_region (WPO_run tt_ok 1 (by kernel_rfl) ?_)))
  refine CALL 26 [.g [.ref 0, .int .i64 b.rule, .int .i64 b.most]] (.s (.bool (soundL b))) [] (by kernel_rfl) (goes_of (by kernel_rfl)) (by kernel_rfl) (by kernel_rfl) (fun hG nV w h => soundL_calls (nV 0) b w (h.reads (id := 0) (kd := .ro) (e := 61) (by kernel_rfl)) ) ?_
  refine WPO_all tt_ok (by kernel_rfl) ?_
  refine WP_cond (!(soundL b)) (by kernel_rfl) (fun hc2 => ?_) (fun hc2 => ?_)
  · have hc2' := hc2; try simp only [Bool.and_eq_true, Bool.or_eq_true, Bool.and_eq_false_iff, Bool.or_eq_false_iff, Bool.not_eq_true', Bool.not_eq_false', decide_eq_true_eq, decide_eq_false_iff_not, beq_iff_eq, beq_eq_false_iff_ne, bne_iff_ne, bne_eq_false_iff_eq, ne_eq] at hc2'
    refine WP_seq (WP_region (CALL 21 [] (.s (.bool stowedL)) [] (by kernel_rfl) (goes_of (by kernel_rfl)) (by kernel_rfl) (by kernel_rfl) (fun hG nV w h => stowedL_calls   w (h.ents (2, .pf NobodyAt (· = 1)) (fnd_mem (by kernel_rfl))).1 (h.ents (3, .pf LanesAt (· = 0)) (fnd_mem (by kernel_rfl))).1 ) ?_))
    refine WPO_all tt_ok (by kernel_rfl) ?_
    refine WP_ret ?_
    exact ⟨.s (.bool stowedL), by kernel_rfl, fun nV w' h => ⟨by rw [show DeckEndsL b bits n = stowedL from by unfold DeckEndsL; simp only [hc2, cond_true, cond_false]]; rfl, h.bel⟩⟩
  have hc2' := hc2; try simp only [Bool.and_eq_true, Bool.or_eq_true, Bool.and_eq_false_iff, Bool.or_eq_false_iff, Bool.not_eq_true', Bool.not_eq_false', decide_eq_true_eq, decide_eq_false_iff_not, beq_iff_eq, beq_eq_false_iff_ne, bne_iff_ne, bne_eq_false_iff_eq, ne_eq] at hc2'
  refine WP_skip ?_
  have hv : ValidD b := sound_valid (by assumption)
  have hb5 := hv.n.2
  have hn1 := hv.n.1
  have hcm : ∀ x ∈ chosenL b n, 0 ≤ x ∧ x < b.loads.length := fun x hx => chosen_mem hx
  have hcp : ∀ x ∈ chosenL b n, 0 ≤ x := fun x hx => (hcm x hx).1
  have hcl5 : (chosenL b n).length ≤ 5 := Nat.le_trans (chosen_len b n) hb5
  have hdl : (drawnL b (chosenL b n) bits).length ≤ 5 := by rw [drawn_len hcl5]; exact hcl5
  have hdm := drawn_mem (bits := bits) hcl5 hcm
  have htl := truly_len b bits
  have hdw : ∀ x ∈ drawnL b (chosenL b n) bits, 0 ≤ x.load ∧ x.load < ((trulyL b bits).length : Int) := fun x hx => by rw [htl]; exact hdm x hx
  have hcw : ∀ x ∈ chosenL b n, 0 ≤ x ∧ x < ((trulyL b bits).length : Int) := fun x hx => by rw [htl]; exact hcm x hx
  refine WP_seq (WP_drawH [] (by kernel_rfl) (by kernel_rfl) ?_)
  refine H_run tt_ok [0, 1, 2, 4] (f' := 3) (by kernel_rfl) (by kernel_rfl) (by kernel_rfl) ?_
  refine H_step 3 (by kernel_rfl) (by kernel_rfl) (fun hfz cx' hx1 hx2 => ?_)
  refine CALLO 28 [.g [.ref 0, .int .i64 b.rule, .int .i64 b.most], .s (.int .i64 n)] (.s (.ref 5)) 3 1 (chosenL b n) encI 0 5 (by kernel_rfl) (by kernel_rfl) (goes_of (by kernel_rfl)) (by kernel_rfl) (by kernel_rfl) (fun _ => rfl) ((fun nV w h => chosenL_calls (nV 0) b n w (h.reads (id := 0) (kd := .ro) (e := 61) (by kernel_rfl)) (by first | assumption | omega | exact fun x hx => hdm x (mem_cut hx) | exact fun x hx => hdw x (mem_cut hx) | exact fun x hx => hsw x (mem_cut hx)))) ?_
  refine WPO_end (by kernel_rfl) ⟨rfl, (hfz.fnds [4, 0, 1, 2, 3] (by kernel_rfl) ⟨by kernel_rfl, by kernel_rfl, by kernel_rfl, by kernel_rfl, by kernel_rfl, trivial⟩ (by kernel_rfl)), ?_⟩
  refine H_step 5 (by kernel_rfl) (by kernel_rfl) (fun hfz cx' hx1 hx2 => ?_)
  refine CALLO 29 [.g [.ref 0, .int .i64 b.rule, .int .i64 b.most], .s (.ref 5), .s (.ref 1)] (.s (.ref 6)) 65 2 (drawnL b (chosenL b n) bits) encPlace zPlace 6 (by kernel_rfl) (by kernel_rfl) (goes_of (by kernel_rfl)) (by kernel_rfl) (by kernel_rfl) (fun _ => rfl) ((fun nV w h => drawnL_calls (nV 0) (nV 5) (nV 1) b (chosenL b n) bits w (h.reads (id := 0) (kd := .ro) (e := 61) (by kernel_rfl)) (h.reads (id := 5) (kd := .own) (e := 3) (by kernel_rfl)) (h.reads (id := 1) (kd := .ro) (e := 3) (by kernel_rfl)) (by first | assumption | omega | exact fun x hx => hdm x (mem_cut hx) | exact fun x hx => hdw x (mem_cut hx) | exact fun x hx => hsw x (mem_cut hx)) (by first | assumption | omega | exact fun x hx => hdm x (mem_cut hx) | exact fun x hx => hdw x (mem_cut hx) | exact fun x hx => hsw x (mem_cut hx)) (by first | assumption | omega | exact fun x hx => hdm x (mem_cut hx) | exact fun x hx => hdw x (mem_cut hx) | exact fun x hx => hsw x (mem_cut hx)))) ?_
  refine WPO_end (by kernel_rfl) ⟨rfl, (hfz.fnds [4, 0, 1, 2, 3] (by kernel_rfl) ⟨by kernel_rfl, by kernel_rfl, by kernel_rfl, by kernel_rfl, by kernel_rfl, trivial⟩ (by kernel_rfl)), ?_⟩
  refine H_run tt_ok [6] (f' := 0) (by kernel_rfl) (by kernel_rfl) (by kernel_rfl) ?_
  refine H_done (by kernel_rfl) ?_
  refine WP_seq (WP_region (WPO_run tt_ok 2 (by kernel_rfl) ?_))
  refine CALL 39 [.g [.ref 0, .int .i64 b.rule, .int .i64 b.most], .s (.ref 6)] (.g [.int .i64 (endsL b (drawnL b (chosenL b n) bits)).lo, .int .i64 (endsL b (drawnL b (chosenL b n) bits)).hi]) [] (by kernel_rfl) (goes_of (by kernel_rfl)) (by kernel_rfl) (by kernel_rfl) (fun hG nV w h => endsL_calls (nV 0) (nV 6) b (drawnL b (chosenL b n) bits) w (h.reads (id := 0) (kd := .ro) (e := 61) (by kernel_rfl)) (h.reads (id := 6) (kd := .own) (e := 65) (by kernel_rfl)) (by first | assumption | omega | exact fun x hx => hdm x (mem_cut hx) | exact fun x hx => hdw x (mem_cut hx) | exact fun x hx => hsw x (mem_cut hx)) (by first | assumption | omega | exact fun x hx => hdm x (mem_cut hx) | exact fun x hx => hdw x (mem_cut hx) | exact fun x hx => hsw x (mem_cut hx))) ?_
  refine WPO_all tt_ok (by kernel_rfl) ?_
  refine WP_seq (WP_region (WPO_run tt_ok 2 (by kernel_rfl) ?_))
  refine CALL 30 [.g [.ref 0, .int .i64 b.rule, .int .i64 b.most], .s (.ref 6)] (.t [(true, [.int .i64 (listA b (drawnL b (chosenL b n) bits)).1.lo, .int .i64 (listA b (drawnL b (chosenL b n) bits)).1.hi]), (false, [.int .i64 (listA b (drawnL b (chosenL b n) bits)).2])]) [] (by kernel_rfl) (goes_of (by kernel_rfl)) (by kernel_rfl) (by kernel_rfl) (fun hG nV w h => listA_calls (nV 0) (nV 6) b (drawnL b (chosenL b n) bits) w (h.reads (id := 0) (kd := .ro) (e := 61) (by kernel_rfl)) (h.reads (id := 6) (kd := .own) (e := 65) (by kernel_rfl)) (h.ents (2, .pf NobodyAt (· = 1)) (fnd_mem (by kernel_rfl))).1 (h.ents (3, .pf LanesAt (· = 0)) (fnd_mem (by kernel_rfl))).1 ) ?_
  refine WPO_all tt_ok (by kernel_rfl) ?_
  refine WP_seq (WP_region (WPO_run tt_ok 2 (by kernel_rfl) ?_))
  refine CALL 31 [.g [.ref 0, .int .i64 b.rule, .int .i64 b.most], .s (.ref 6)] (.t [(false, [.int .i64 (levelA b (drawnL b (chosenL b n) bits)).1]), (false, [.int .i64 (levelA b (drawnL b (chosenL b n) bits)).2])]) [] (by kernel_rfl) (goes_of (by kernel_rfl)) (by kernel_rfl) (by kernel_rfl) (fun hG nV w h => levelA_calls (nV 0) (nV 6) b (drawnL b (chosenL b n) bits) w (h.reads (id := 0) (kd := .ro) (e := 61) (by kernel_rfl)) (h.reads (id := 6) (kd := .own) (e := 65) (by kernel_rfl)) (h.ents (2, .pf NobodyAt (· = 1)) (fnd_mem (by kernel_rfl))).1 (h.ents (3, .pf LanesAt (· = 0)) (fnd_mem (by kernel_rfl))).1 ) ?_
  refine WPO_all tt_ok (by kernel_rfl) ?_
  refine WP_seq (WP_region (WPO_run tt_ok 2 (by kernel_rfl) ?_))
  refine CALL 32 [.g [.ref 0, .int .i64 b.rule, .int .i64 b.most], .s (.ref 6)] (.t [(false, [.int .i64 (tiltsA b (drawnL b (chosenL b n) bits)).1]), (false, [.int .i64 (tiltsA b (drawnL b (chosenL b n) bits)).2])]) [] (by kernel_rfl) (goes_of (by kernel_rfl)) (by kernel_rfl) (by kernel_rfl) (fun hG nV w h => tiltsA_calls (nV 0) (nV 6) b (drawnL b (chosenL b n) bits) w (h.reads (id := 0) (kd := .ro) (e := 61) (by kernel_rfl)) (h.reads (id := 6) (kd := .own) (e := 65) (by kernel_rfl)) (h.ents (2, .pf NobodyAt (· = 1)) (fnd_mem (by kernel_rfl))).1 (h.ents (3, .pf LanesAt (· = 0)) (fnd_mem (by kernel_rfl))).1 ) ?_
  refine WPO_all tt_ok (by kernel_rfl) ?_
  refine WP_seq (WP_region (WPO_run tt_ok 5 (by kernel_rfl) ?_))
  refine CALL 40 [.s (.int .i64 (IntKind.i64.wrap (0 - b.rule))), .s (.int .i64 b.rule)] (.g [.int .i64 (rangeF (IntKind.i64.wrap (0 - b.rule)) b.rule).lo, .int .i64 (rangeF (IntKind.i64.wrap (0 - b.rule)) b.rule).hi]) [] (by kernel_rfl) (goes_of (by kernel_rfl)) (by kernel_rfl) (by kernel_rfl) (fun hG nV w h => rangeF_calls  (IntKind.i64.wrap (0 - b.rule)) b.rule w  ) ?_
  refine WPO_all tt_ok (by kernel_rfl) ?_
  refine WP_seq (WP_region (WPO_all tt_ok (by kernel_rfl) ?_))
  refine WP_le (Le_ro (id := 6) (e := 65) (sz := 2) (li := (drawnL b (chosenL b n) bits)) (enc := encPlace) (z := zPlace) (by kernel_rfl)) ?_
  refine WP_seq (WP_seq (WP_region (WPO_all tt_ok (by kernel_rfl) ?_)))
  refine WP_fact (p := ((drawnL b (chosenL b n) bits).length : Int) ≤ 9223372036854775807) (fun nV aV wV hs => Reads.len (sz := 2) (enc := encPlace) (z := zPlace) (hs.heap.reads (id := 6) (kd := .ro) (e := 65) (by kernel_rfl))) (fun hN1 => ?_)
  refine WP_loopA (ρ := Bool) (DeckEndsL_c1 b bits n) (DeckEndsL_b1 b bits n) (drawnL b (chosenL b n) bits).length (IntKind.i64.wrap (((drawnL b (chosenL b n) bits).length : Int) - 1), -1) (fun k : Nat => (k : Int)) (fun (ci : Int) (zz : Int × Int) => ⟨130, [(17, [], .s (.int .i64 zz.1)), (16, [], .s (.int .i64 zz.2)), (15, [], .s (.p 9 0)), (14, [], .s (.int .i64 (tiltsA b (drawnL b (chosenL b n) bits)).2)), (13, [], .s (.int .i64 (tiltsA b (drawnL b (chosenL b n) bits)).1)), (12, [], .s (.int .i64 (levelA b (drawnL b (chosenL b n) bits)).2)), (11, [], .s (.int .i64 (levelA b (drawnL b (chosenL b n) bits)).1)), (10, [], .s (.int .i64 (listA b (drawnL b (chosenL b n) bits)).2)), (9, [], .s (.p 8 0)), (8, [], .s (.p 7 0)), (7, [], .s (.ref 6)), (3, [], .s (.p 4 0))], [(9, .box 43 [.int .i64 (rangeF (IntKind.i64.wrap (0 - b.rule)) b.rule).lo, .int .i64 (rangeF (IntKind.i64.wrap (0 - b.rule)) b.rule).hi]), (8, .box 43 [.int .i64 (listA b (drawnL b (chosenL b n) bits)).1.lo, .int .i64 (listA b (drawnL b (chosenL b n) bits)).1.hi]), (7, .box 43 [.int .i64 (endsL b (drawnL b (chosenL b n) bits)).lo, .int .i64 (endsL b (drawnL b (chosenL b n) bits)).hi]), (6, .sl .ro 65 2 (drawnL b (chosenL b n) bits) encPlace zPlace), (5, .sl .own 3 1 (chosenL b n) encI 0), (4, .box 24 [.ref 0, .int .i64 b.rule, .int .i64 b.most]), (0, .sl .ro 61 3 b.loads encLoad zLoad), (1, .sl .ro 3 1 bits encI 0), (2, .pf NobodyAt (· = 1)), (3, .pf LanesAt (· = 0))], 10, []⟩) (fun zz : Int × Int => ⟨130, [(16, [], .s (.int .i64 zz.2)), (15, [], .s (.p 9 0)), (14, [], .s (.int .i64 (tiltsA b (drawnL b (chosenL b n) bits)).2)), (13, [], .s (.int .i64 (tiltsA b (drawnL b (chosenL b n) bits)).1)), (12, [], .s (.int .i64 (levelA b (drawnL b (chosenL b n) bits)).2)), (11, [], .s (.int .i64 (levelA b (drawnL b (chosenL b n) bits)).1)), (10, [], .s (.int .i64 (listA b (drawnL b (chosenL b n) bits)).2)), (9, [], .s (.p 8 0)), (8, [], .s (.p 7 0)), (3, [], .s (.p 4 0))], [(9, .box 43 [.int .i64 (rangeF (IntKind.i64.wrap (0 - b.rule)) b.rule).lo, .int .i64 (rangeF (IntKind.i64.wrap (0 - b.rule)) b.rule).hi]), (8, .box 43 [.int .i64 (listA b (drawnL b (chosenL b n) bits)).1.lo, .int .i64 (listA b (drawnL b (chosenL b n) bits)).1.hi]), (7, .box 43 [.int .i64 (endsL b (drawnL b (chosenL b n) bits)).lo, .int .i64 (endsL b (drawnL b (chosenL b n) bits)).hi]), (6, .sl .ro 65 2 (drawnL b (chosenL b n) bits) encPlace zPlace), (5, .sl .own 3 1 (chosenL b n) encI 0), (4, .box 24 [.ref 0, .int .i64 b.rule, .int .i64 b.most]), (0, .sl .ro 61 3 b.loads encLoad zLoad), (1, .sl .ro 3 1 bits encI 0), (2, .pf NobodyAt (· = 1)), (3, .pf LanesAt (· = 0))], 10, []⟩) (fun (k1 : Nat) (zz : Int × Int) => zz.1 = ((drawnL b (chosenL b n) bits).length : Int) - 1 - k1) (by show IntKind.i64.wrap (((drawnL b (chosenL b n) bits).length : Int) - 1) = _; rw [wrapI (by omega) (by omega)]; omega) ⟨0, rfl, Le_sel (ts := [17, 16, 15, 14, 13, 12, 11, 10, 9, 8, 7, 3]) (ids := [9, 8, 7, 6, 5, 4, 0, 1, 2, 3]) (nx := 10) (by kernel_rfl)⟩ ?_ ?_
  · intro k1 zz hn1 hp1 hi1 Q1 hq1 ho1
    obtain ⟨v1_0, v1_1⟩ := zz
    replace hp1 : v1_0 = ((drawnL b (chosenL b n) bits).length : Int) - 1 - k1 := hp1
    refine WP_seq (WP_seq (WP_region (WPO_all tt_ok (by kernel_rfl) ?_)))
    refine WP_cond (decide (v1_0 ≥ 0)) (by kernel_rfl) (fun hc3 => ?_) (fun hc3 => ?_)
    rotate_left
    · refine WP_exit ?_
      show Q1 (.exit 0) _
      exact LA_exit hq1 (v1_0, v1_1) (loopR_end hi1 hc3) ⟨k1, hn1, hp1⟩ (Le_sel (ts := [16, 15, 14, 13, 12, 11, 10, 9, 8, 3]) (ids := [9, 8, 7, 6, 5, 4, 0, 1, 2, 3]) (nx := 10) (by kernel_rfl))
    have hc3' := of_decide_eq_true hc3
    have hk1 : k1 < (drawnL b (chosenL b n) bits).length := by omega
    refine WP_skip ?_
    refine WP_seq (WP_block ?_)
    refine WP_seq (WP_drawH [] (by kernel_rfl) (by kernel_rfl) ?_)
    refine H_run tt_ok [0, 1, 2, 3, 4] (f' := 4) (by kernel_rfl) (by kernel_rfl) (by kernel_rfl) ?_
    refine H_step 5 (by kernel_rfl) (by kernel_rfl) (fun hfz cx' hx1 hx2 => ?_)
    refine SLC tt_ok 6 (drawnL b (chosenL b n) bits).length .ro 65 2 0 (IntKind.i64.wrap (v1_0 + 1)) none .ro (some 67) (by kernel_rfl) (by kernel_rfl) (by (try rw [wrapI (by omega) (by omega)]); exact ⟨by omega, by omega, by omega⟩) (.inl ⟨rfl, fun m h => by cases h⟩) ?_
    refine WPO_end (by kernel_rfl) ⟨rfl, (hfz.fnds [9, 8, 7, 6, 5, 4, 0, 1, 2, 3] (by kernel_rfl) ⟨by kernel_rfl, by kernel_rfl, by kernel_rfl, by kernel_rfl, by kernel_rfl, by kernel_rfl, by kernel_rfl, by kernel_rfl, by kernel_rfl, by kernel_rfl, trivial⟩ (by kernel_rfl)), ?_⟩
    refine H_step 6 (by kernel_rfl) (by kernel_rfl) (fun hfz cx' hx1 hx2 => ?_)
    refine CALL 39 [.g [.ref 0, .int .i64 b.rule, .int .i64 b.most], .s (.ref 10)] (.g [.int .i64 (endsL b (cut (drawnL b (chosenL b n) bits) 0 (IntKind.i64.wrap (v1_0 + 1)))).lo, .int .i64 (endsL b (cut (drawnL b (chosenL b n) bits) 0 (IntKind.i64.wrap (v1_0 + 1)))).hi]) [] (by kernel_rfl) (goes_of (by kernel_rfl)) (by kernel_rfl) (by kernel_rfl) (fun hG nV w h => endsL_calls (nV 0) (nV 10) b (cut (drawnL b (chosenL b n) bits) 0 (IntKind.i64.wrap (v1_0 + 1))) w (h.reads (id := 0) (kd := .ro) (e := 61) (by kernel_rfl)) (h.reads (id := 10) (kd := .ro) (e := 65) (by kernel_rfl)) (by first | assumption | omega | exact fun x hx => hdm x (mem_cut hx) | exact fun x hx => hdw x (mem_cut hx) | exact fun x hx => hsw x (mem_cut hx)) (by first | assumption | omega | exact fun x hx => hdm x (mem_cut hx) | exact fun x hx => hdw x (mem_cut hx) | exact fun x hx => hsw x (mem_cut hx))) ?_
    refine WPO_end (by kernel_rfl) ⟨rfl, (hfz.fnds [9, 8, 7, 6, 5, 4, 0, 1, 2, 3] (by kernel_rfl) ⟨by kernel_rfl, by kernel_rfl, by kernel_rfl, by kernel_rfl, by kernel_rfl, by kernel_rfl, by kernel_rfl, by kernel_rfl, by kernel_rfl, by kernel_rfl, trivial⟩ (by kernel_rfl)), ?_⟩
    refine H_step 7 (by kernel_rfl) (by kernel_rfl) (fun hfz cx' hx1 hx2 => ?_)
    refine CALL 41 [.g [.int .i64 (rangeF (IntKind.i64.wrap (0 - b.rule)) b.rule).lo, .int .i64 (rangeF (IntKind.i64.wrap (0 - b.rule)) b.rule).hi], .g [.int .i64 (endsL b (cut (drawnL b (chosenL b n) bits) 0 (IntKind.i64.wrap (v1_0 + 1)))).lo, .int .i64 (endsL b (cut (drawnL b (chosenL b n) bits) 0 (IntKind.i64.wrap (v1_0 + 1)))).hi]] (.s (.bool (coversF (rangeF (IntKind.i64.wrap (0 - b.rule)) b.rule) (endsL b (cut (drawnL b (chosenL b n) bits) 0 (IntKind.i64.wrap (v1_0 + 1))))))) [] (by kernel_rfl) (goes_of (by kernel_rfl)) (by kernel_rfl) (by kernel_rfl) (fun hG nV w h => coversF_calls  (rangeF (IntKind.i64.wrap (0 - b.rule)) b.rule) (endsL b (cut (drawnL b (chosenL b n) bits) 0 (IntKind.i64.wrap (v1_0 + 1)))) w  ) ?_
    refine WPO_end (by kernel_rfl) ⟨rfl, (hfz.fnds [9, 8, 7, 6, 5, 4, 0, 1, 2, 3] (by kernel_rfl) ⟨by kernel_rfl, by kernel_rfl, by kernel_rfl, by kernel_rfl, by kernel_rfl, by kernel_rfl, by kernel_rfl, by kernel_rfl, by kernel_rfl, by kernel_rfl, trivial⟩ (by kernel_rfl)), ?_⟩
    refine H_run tt_ok [8] (f' := 0) (by kernel_rfl) (by kernel_rfl) (by kernel_rfl) ?_
    refine H_done (by kernel_rfl) ?_
    refine WP_join (!(coversF (rangeF (IntKind.i64.wrap (0 - b.rule)) b.rule) (endsL b (cut (drawnL b (chosenL b n) bits) 0 (IntKind.i64.wrap (v1_0 + 1)))))) (fun q => ⟨130, [(16, [], .s (.int .i64 (bif q then v1_0 else v1_1))), (17, [], .s (.int .i64 v1_0)), (15, [], .s (.p 9 0)), (14, [], .s (.int .i64 (tiltsA b (drawnL b (chosenL b n) bits)).2)), (13, [], .s (.int .i64 (tiltsA b (drawnL b (chosenL b n) bits)).1)), (12, [], .s (.int .i64 (levelA b (drawnL b (chosenL b n) bits)).2)), (11, [], .s (.int .i64 (levelA b (drawnL b (chosenL b n) bits)).1)), (10, [], .s (.int .i64 (listA b (drawnL b (chosenL b n) bits)).2)), (9, [], .s (.p 8 0)), (8, [], .s (.p 7 0)), (7, [], .s (.ref 6)), (3, [], .s (.p 4 0))], [(10, .sl .ro 65 2 (cut (drawnL b (chosenL b n) bits) 0 (IntKind.i64.wrap (v1_0 + 1))) encPlace zPlace), (9, .box 43 [.int .i64 (rangeF (IntKind.i64.wrap (0 - b.rule)) b.rule).lo, .int .i64 (rangeF (IntKind.i64.wrap (0 - b.rule)) b.rule).hi]), (8, .box 43 [.int .i64 (listA b (drawnL b (chosenL b n) bits)).1.lo, .int .i64 (listA b (drawnL b (chosenL b n) bits)).1.hi]), (7, .box 43 [.int .i64 (endsL b (drawnL b (chosenL b n) bits)).lo, .int .i64 (endsL b (drawnL b (chosenL b n) bits)).hi]), (6, .sl .ro 65 2 (drawnL b (chosenL b n) bits) encPlace zPlace), (5, .sl .own 3 1 (chosenL b n) encI 0), (4, .box 24 [.ref 0, .int .i64 b.rule, .int .i64 b.most]), (0, .sl .ro 61 3 b.loads encLoad zLoad), (1, .sl .ro 3 1 bits encI 0), (2, .pf NobodyAt (· = 1)), (3, .pf LanesAt (· = 0))], 11, []⟩) (by kernel_rfl) (fun hc5 => ?_) (fun hc5 => ?_) ?_
    · have hc5' := hc5; try simp only [Bool.and_eq_true, Bool.or_eq_true, Bool.and_eq_false_iff, Bool.or_eq_false_iff, Bool.not_eq_true', Bool.not_eq_false', decide_eq_true_eq, decide_eq_false_iff_not, beq_iff_eq, beq_eq_false_iff_ne, bne_iff_ne, bne_eq_false_iff_eq, ne_eq] at hc5'
      refine WP_region (WPO_all tt_ok (by kernel_rfl) ?_)
      exact Le_sel (ts := [16, 17, 15, 14, 13, 12, 11, 10, 9, 8, 7, 3]) (ids := [10, 9, 8, 7, 6, 5, 4, 0, 1, 2, 3]) (nx := 11) (by kernel_rfl)
    · have hc5' := hc5; try simp only [Bool.and_eq_true, Bool.or_eq_true, Bool.and_eq_false_iff, Bool.or_eq_false_iff, Bool.not_eq_true', Bool.not_eq_false', decide_eq_true_eq, decide_eq_false_iff_not, beq_iff_eq, beq_eq_false_iff_ne, bne_iff_ne, bne_eq_false_iff_eq, ne_eq] at hc5'
      refine WP_skip ?_
      exact Le_sel (ts := [16, 17, 15, 14, 13, 12, 11, 10, 9, 8, 7, 3]) (ids := [10, 9, 8, 7, 6, 5, 4, 0, 1, 2, 3]) (nx := 11) (by kernel_rfl)
    refine WP_region (WPO_all tt_ok (by kernel_rfl) ?_)
    show Q1 .normal _
    exact LA_go hq1 (ci := ((k1 + 1) : Int)) (IntKind.i64.wrap (v1_0 - 1), bif (!(coversF (rangeF (IntKind.i64.wrap (0 - b.rule)) b.rule) (endsL b (cut (drawnL b (chosenL b n) bits) 0 (IntKind.i64.wrap (v1_0 + 1)))))) then v1_0 else v1_1) hk1 (rfl) (loopR_go hi1 hk1 hc3 (rfl)) (by simp only; rw [wrapI (by omega) (by omega)]; omega) (Le_sel (ts := [17, 16, 15, 14, 13, 12, 11, 10, 9, 8, 7, 3]) (ids := [9, 8, 7, 6, 5, 4, 0, 1, 2, 3]) (nx := 10) (by kernel_rfl))
  intro zz hR1 hP1 s' hl
  obtain ⟨u1_0, u1_1⟩ := zz
  obtain ⟨kP1, hkP1, hpP1⟩ := hP1
  replace hpP1 : u1_0 = ((drawnL b (chosenL b n) bits).length : Int) - 1 - kP1 := hpP1
  refine WP_le hl ?_
  clear hl s'
  refine WP_seq (WP_seq (WP_region (WPO_run tt_ok 9 (by kernel_rfl) ?_)))
  refine BIN .neq 43 (.tmp 79) (.tmp 80) (.g [.int .i64 (listA b (drawnL b (chosenL b n) bits)).1.lo, .int .i64 (listA b (drawnL b (chosenL b n) bits)).1.hi]) (.g [.int .i64 (endsL b (drawnL b (chosenL b n) bits)).lo, .int .i64 (endsL b (drawnL b (chosenL b n) bits)).hi]) (.s (.bool (!((listA b (drawnL b (chosenL b n) bits)).1.lo == (endsL b (drawnL b (chosenL b n) bits)).lo && (listA b (drawnL b (chosenL b n) bits)).1.hi == (endsL b (drawnL b (chosenL b n) bits)).hi)))) [(((listA b (drawnL b (chosenL b n) bits)).2 != 0) || ((levelA b (drawnL b (chosenL b n) bits)).2 != 0), false)] (by kernel_rfl) (by kernel_rfl) (by kernel_rfl) (fun _ => BinOk_pairN (by kernel_rfl) _ _ _ _) ?_
  refine WPO_run tt_ok 6 (by kernel_rfl) ?_
  refine CALL 41 [.g [.int .i64 (rangeF (IntKind.i64.wrap (0 - b.rule)) b.rule).lo, .int .i64 (rangeF (IntKind.i64.wrap (0 - b.rule)) b.rule).hi], .g [.int .i64 (endsL b (drawnL b (chosenL b n) bits)).lo, .int .i64 (endsL b (drawnL b (chosenL b n) bits)).hi]] (.s (.bool (coversF (rangeF (IntKind.i64.wrap (0 - b.rule)) b.rule) (endsL b (drawnL b (chosenL b n) bits))))) [((((listA b (drawnL b (chosenL b n) bits)).2 != 0) || ((levelA b (drawnL b (chosenL b n) bits)).2 != 0)) || (!((listA b (drawnL b (chosenL b n) bits)).1.lo == (endsL b (drawnL b (chosenL b n) bits)).lo && (listA b (drawnL b (chosenL b n) bits)).1.hi == (endsL b (drawnL b (chosenL b n) bits)).hi)), false)] (by kernel_rfl) (goes_of (by kernel_rfl)) (by kernel_rfl) (by kernel_rfl) (fun hG nV w h => coversF_calls  (rangeF (IntKind.i64.wrap (0 - b.rule)) b.rule) (endsL b (drawnL b (chosenL b n) bits)) w  ) ?_
  refine BIN .neq 4 (.tmp 85) (.tmp 88) (.s (.bool ((levelA b (drawnL b (chosenL b n) bits)).1 == 2))) (.s (.bool (coversF (rangeF (IntKind.i64.wrap (0 - b.rule)) b.rule) (endsL b (drawnL b (chosenL b n) bits))))) (.s (.bool (!(((levelA b (drawnL b (chosenL b n) bits)).1 == 2) == (coversF (rangeF (IntKind.i64.wrap (0 - b.rule)) b.rule) (endsL b (drawnL b (chosenL b n) bits))))))) [((((listA b (drawnL b (chosenL b n) bits)).2 != 0) || ((levelA b (drawnL b (chosenL b n) bits)).2 != 0)) || (!((listA b (drawnL b (chosenL b n) bits)).1.lo == (endsL b (drawnL b (chosenL b n) bits)).lo && (listA b (drawnL b (chosenL b n) bits)).1.hi == (endsL b (drawnL b (chosenL b n) bits)).hi)), false)] (by kernel_rfl) (by kernel_rfl) (by kernel_rfl) (fun _ => BinOk_bn (by kernel_rfl) _ _) ?_
  refine WPO_run tt_ok 17 (by kernel_rfl) ?_
  refine BIN .neq 4 (.tmp 93) (.tmp 106) (.s (.bool ((levelA b (drawnL b (chosenL b n) bits)).1 == 0))) (.s (.bool ((decide ((endsL b (drawnL b (chosenL b n) bits)).lo > b.rule)) || (decide ((endsL b (drawnL b (chosenL b n) bits)).hi < (IntKind.i64.wrap (0 - b.rule))))))) (.s (.bool (!(((levelA b (drawnL b (chosenL b n) bits)).1 == 0) == ((decide ((endsL b (drawnL b (chosenL b n) bits)).lo > b.rule)) || (decide ((endsL b (drawnL b (chosenL b n) bits)).hi < (IntKind.i64.wrap (0 - b.rule))))))))) [(((((listA b (drawnL b (chosenL b n) bits)).2 != 0) || ((levelA b (drawnL b (chosenL b n) bits)).2 != 0)) || (!((listA b (drawnL b (chosenL b n) bits)).1.lo == (endsL b (drawnL b (chosenL b n) bits)).lo && (listA b (drawnL b (chosenL b n) bits)).1.hi == (endsL b (drawnL b (chosenL b n) bits)).hi))) || (!(((levelA b (drawnL b (chosenL b n) bits)).1 == 2) == (coversF (rangeF (IntKind.i64.wrap (0 - b.rule)) b.rule) (endsL b (drawnL b (chosenL b n) bits))))), false)] (by kernel_rfl) (by kernel_rfl) (by kernel_rfl) (fun _ => BinOk_bn (by kernel_rfl) _ _) ?_
  refine WPO_all tt_ok (by kernel_rfl) ?_
  refine WP_cond ((((((listA b (drawnL b (chosenL b n) bits)).2 != 0) || ((levelA b (drawnL b (chosenL b n) bits)).2 != 0)) || (!((listA b (drawnL b (chosenL b n) bits)).1.lo == (endsL b (drawnL b (chosenL b n) bits)).lo && (listA b (drawnL b (chosenL b n) bits)).1.hi == (endsL b (drawnL b (chosenL b n) bits)).hi))) || (!(((levelA b (drawnL b (chosenL b n) bits)).1 == 2) == (coversF (rangeF (IntKind.i64.wrap (0 - b.rule)) b.rule) (endsL b (drawnL b (chosenL b n) bits)))))) || (!(((levelA b (drawnL b (chosenL b n) bits)).1 == 0) == ((decide ((endsL b (drawnL b (chosenL b n) bits)).lo > b.rule)) || (decide ((endsL b (drawnL b (chosenL b n) bits)).hi < (IntKind.i64.wrap (0 - b.rule)))))))) (by kernel_rfl) (fun hc7 => ?_) (fun hc7 => ?_)
  · have hc7' := hc7; try simp only [Bool.and_eq_true, Bool.or_eq_true, Bool.and_eq_false_iff, Bool.or_eq_false_iff, Bool.not_eq_true', Bool.not_eq_false', decide_eq_true_eq, decide_eq_false_iff_not, beq_iff_eq, beq_eq_false_iff_ne, bne_iff_ne, bne_eq_false_iff_eq, ne_eq] at hc7'
    refine WP_seq (WP_region (WPO_all tt_ok (by kernel_rfl) ?_))
    refine WP_ret ?_
    exact ⟨.s (.bool false), by kernel_rfl, fun nV w' h => ⟨by rw [show DeckEndsL b bits n = false from by unfold DeckEndsL; simp only [hc2, hR1, hc7, cond_true, cond_false]]; rfl, h.bel⟩⟩
  have hc7' := hc7; try simp only [Bool.and_eq_true, Bool.or_eq_true, Bool.and_eq_false_iff, Bool.or_eq_false_iff, Bool.not_eq_true', Bool.not_eq_false', decide_eq_true_eq, decide_eq_false_iff_not, beq_iff_eq, beq_eq_false_iff_ne, bne_iff_ne, bne_eq_false_iff_eq, ne_eq] at hc7'
  refine WP_skip ?_
  refine WP_seq (WP_seq (WP_region (WPO_all tt_ok (by kernel_rfl) ?_)))
  refine WP_cond (decide (u1_1 < 0)) (by kernel_rfl) (fun hc9 => ?_) (fun hc9 => ?_)
  · have hc9' := of_decide_eq_true hc9
    refine WP_seq (WP_region (WPO_run tt_ok 7 (by kernel_rfl) ?_))
    refine CALL 21 [] (.s (.bool stowedL)) [(((tiltsA b (drawnL b (chosenL b n) bits)).2 == 4) && ((tiltsA b (drawnL b (chosenL b n) bits)).1 == 0), true)] (by kernel_rfl) (goes_of (by kernel_rfl)) (by kernel_rfl) (by kernel_rfl) (fun hG nV w h => stowedL_calls   w (h.ents (2, .pf NobodyAt (· = 1)) (fnd_mem (by kernel_rfl))).1 (h.ents (3, .pf LanesAt (· = 0)) (fnd_mem (by kernel_rfl))).1 ) ?_
    refine WPO_all tt_ok (by kernel_rfl) ?_
    refine WP_ret ?_
    exact ⟨.s (.bool ((((tiltsA b (drawnL b (chosenL b n) bits)).2 == 4) && ((tiltsA b (drawnL b (chosenL b n) bits)).1 == 0)) && stowedL)), by kernel_rfl, fun nV w' h => ⟨by rw [show DeckEndsL b bits n = ((((tiltsA b (drawnL b (chosenL b n) bits)).2 == 4) && ((tiltsA b (drawnL b (chosenL b n) bits)).1 == 0)) && stowedL) from by unfold DeckEndsL; simp only [hc2, hR1, hc7, hc9, cond_true, cond_false]]; rfl, h.bel⟩⟩
  have hc9' := of_decide_eq_false hc9
  refine WP_skip ?_
  refine WP_seq (WP_region (WPO_run tt_ok 8 (by kernel_rfl) ?_))
  refine CALL 21 [] (.s (.bool stowedL)) [(((tiltsA b (drawnL b (chosenL b n) bits)).2 == 0) && ((tiltsA b (drawnL b (chosenL b n) bits)).1 == u1_1), true)] (by kernel_rfl) (goes_of (by kernel_rfl)) (by kernel_rfl) (by kernel_rfl) (fun hG nV w h => stowedL_calls   w (h.ents (2, .pf NobodyAt (· = 1)) (fnd_mem (by kernel_rfl))).1 (h.ents (3, .pf LanesAt (· = 0)) (fnd_mem (by kernel_rfl))).1 ) ?_
  refine WPO_all tt_ok (by kernel_rfl) ?_
  refine WP_ret ?_
  exact ⟨.s (.bool ((((tiltsA b (drawnL b (chosenL b n) bits)).2 == 0) && ((tiltsA b (drawnL b (chosenL b n) bits)).1 == u1_1)) && stowedL)), by kernel_rfl, fun nV w' h => ⟨by rw [show DeckEndsL b bits n = ((((tiltsA b (drawnL b (chosenL b n) bits)).2 == 0) && ((tiltsA b (drawnL b (chosenL b n) bits)).1 == u1_1)) && stowedL) from by unfold DeckEndsL; simp only [hc2, hR1, hc7, hc9, cond_true, cond_false]]; rfl, h.bel⟩⟩
end Go.Proofs.YthfnedbpmdkdjaaDoor.D
namespace Go.Proofs.YthfnedbpmdkdjaaDoor.D
open Go Go.RowKit Go.Proofs.YthfnedbpmdkdjaaDoor.Eng Go.Proofs.YthfnedbpmdkdjaaDoor.Cm
set_option linter.unusedVariables false
set_option linter.unusedSimpArgs false
set_option linter.unusedSectionVars false
theorem lean_one (x : Place) (u : List Int) : leanL [x] u = leanF u 0 x := by rw [lean_eq]; rfl
theorem cut_one {on : List Place} {k : Nat} (h : k < on.length) : cut on (k : Int) ((k + 1 : Nat) : Int) = [on.getD k zPlace] := by
  unfold cut
  rw [show ((k + 1 : Nat) : Int).toNat = k + 1 by omega, show ((k : Nat) : Int).toNat = k by omega, List.take_add_one, List.getElem?_eq_getElem h, List.getD_eq_getElem?_getD, List.getElem?_eq_getElem h]
  have : (on.take k).length = k := by rw [List.length_take]; omega
  rw [List.drop_append, List.drop_of_length_le (by omega), this]
  simp
theorem ends_eq {b : DBook} (hv : ValidD b) {on : List Place} (hpl : ∀ x ∈ on, isPl b x.load x.lane = true) (hlen : on.length ≤ 5) : endsL b on = accD b on on.length := by
  unfold endsL
  rw [loopR_foldl (c := endsL_c1 b on) (b := endsL_b1 b on) (fun k (v : List Int × List Int) => (v.1 ++ [(b.loads.getD k zLoad).w.hi], v.2 ++ [(b.loads.getD k zLoad).w.lo])) (fun k v hk => by obtain ⟨v1, v2⟩ := v; simp only [endsL_c1]; rw [decide_eq_true]; omega) (fun k v hk => rfl)]
  have hf : ∀ (n : Nat), (List.range n).foldl (fun (v : List Int × List Int) k => (v.1 ++ [(b.loads.getD k zLoad).w.hi], v.2 ++ [(b.loads.getD k zLoad).w.lo])) (([] : List Int), ([] : List Int)) = ((List.range n).map fun k => (b.loads.getD k zLoad).w.hi, (List.range n).map fun k => (b.loads.getD k zLoad).w.lo) := by
    intro n
    induction n with
    | zero => rfl
    | succ n ih => rw [List.range_succ, List.foldl_append, ih, List.map_append, List.map_append]; rfl
  rw [hf]
  simp only
  have hg : ∀ (f : Nat → Int) k, k < b.loads.length → ((List.range b.loads.length).map f).getD k 0 = f k := fun f k hk => by
    rw [List.getD_eq_getElem?_getD, List.getElem?_map, List.getElem?_range hk]; rfl
  generalize hH : (List.range b.loads.length).map (fun k => (b.loads.getD k zLoad).w.hi) = H
  generalize hLo : (List.range b.loads.length).map (fun k => (b.loads.getD k zLoad).w.lo) = Lo
  have hHg : ∀ k, k < b.loads.length → H.getD k 0 = (b.loads.getD k zLoad).w.hi := fun k hk => by rw [← hH]; exact hg _ k hk
  have hLg : ∀ k, k < b.loads.length → Lo.getD k 0 = (b.loads.getD k zLoad).w.lo := fun k hk => by rw [← hLo]; exact hg _ k hk
  rcases loopR_keep (c := endsL_c2 b on H Lo) (b := endsL_b2 b on H Lo) (N := on.length) (fun k v => v = ((accD b on k).lo, (accD b on k).hi)) (fun _ => False) (fun k v hk _ => by obtain ⟨v1, v2⟩ := v; simp only [endsL_c2]; rw [decide_eq_true]; omega) (fun k v hk hp => by
    subst hp
    refine .inl ⟨_, rfl, ?_⟩
    have hB := acc_bounds hv hpl hlen k (by omega)
    have hs := isPl_spec (hpl _ (getD_mem (z := zPlace) hk))
    have hw := (hv.load (k := (on.getD k zPlace).load.toNat) (by omega)).1
    rw [wrapI (by omega) (by omega), show ((k : Int) + 1) = ((k + 1 : Nat) : Int) by omega, cut_one hk, lean_one, lean_one, accD_succ hk]
    unfold stepD laneF leanF
    rw [hHg _ (by omega), hLg _ (by omega)]
    by_cases e0 : (on.getD k zPlace).lane = 0
    · rw [if_pos e0, show ((on.getD k zPlace).lane == 0) = true from beq_iff_eq.2 e0, cond_true, cond_true]
      simp only [addedF, hullF, pointF, rangeF, portD, mn_spec, mx_spec]
      rw [wrapI (x := 0 + _) (by omega) (by omega), wrapI (x := 0 + _) (by omega) (by omega)]
      congr 2 <;> omega
    · rw [if_neg e0, show ((on.getD k zPlace).lane == 0) = false from beq_eq_false_iff_ne.2 e0, cond_false, cond_false]
      by_cases e1 : (on.getD k zPlace).lane = 1
      · rw [if_pos e1, show ((on.getD k zPlace).lane == 2) = false from beq_eq_false_iff_ne.2 (by omega), cond_false, cond_false]
        simp only [addedF, hullF, pointF, rangeF, middleD, mn_spec, mx_spec]
        rw [show min (0 : Int) 0 = 0 by omega, show max (0 : Int) 0 = 0 by omega, wrapI (by omega) (by omega), wrapI (by omega) (by omega)]
        congr 1 <;> omega
      · rw [if_neg e1, show ((on.getD k zPlace).lane == 2) = true from beq_iff_eq.2 (by omega), cond_true, cond_true]
        simp only [addedF, hullF, pointF, rangeF, starD, mn_spec, mx_spec]
        rw [wrapI (x := 0 - _) (by omega) (by omega), wrapI (x := 0 - _) (by omega) (by omega)]
        congr 2 <;> omega) ((pointF 0).lo, (pointF 0).hi) rfl with ⟨v, e, hp⟩ | ⟨r, e, hf⟩
  · rw [e, hp]
  · exact hf.elim
theorem covers_iff {b : DBook} (hv : ValidD b) {l : Span} (h : l.lo ≤ l.hi) : coversF (rangeF (IntKind.i64.wrap (0 - b.rule)) b.rule) l = !decide (levelD b l < 2) := by
  rw [rule_wrap hv]
  have hc : coversF (rangeF (-b.rule) b.rule) l = true ↔ -b.rule ≤ l.lo ∧ l.hi ≤ b.rule := by
    unfold coversF
    rw [Bool.and_eq_true, decide_eq_true_eq, decide_eq_true_eq]
    exact Iff.rfl
  rcases level_cases hv h with ⟨e, h3⟩ | ⟨e, h3⟩ | ⟨e, h3⟩
  · rw [e, Bool.eq_iff_iff]
    rw [hc]
    exact ⟨fun _ => rfl, fun _ => h3⟩
  · rw [e, Bool.eq_iff_iff]
    rw [hc]
    exact ⟨fun h4 => absurd h4 h3.1, fun h4 => (by cases h4)⟩
  · rw [e, Bool.eq_iff_iff]
    rw [hc]
    exact ⟨fun h4 => absurd h4 h3.1, fun h4 => (by cases h4)⟩
theorem DeckEnds_true (b : DBook) (bits : List Int) (n : Int) : DeckEndsL b bits n = true := by
  unfold DeckEndsL
  rw [stowedL_true]
  cases hs : soundL b with
  | false => rfl
  | true =>
    have hv := sound_iff.1 hs
    obtain ⟨s, hs1, hs2⟩ := chosen_M hv n
    obtain ⟨hok, hset⟩ := drawn_ok hv hs1 bits
    have hlen := drawn_len5 hv s bits
    simp only [hs2]
    generalize hon : drawnL b (M b.loads.length s) bits = on at *
    have hB := acc_bounds hv hok.1 hlen
    have hE := ends_eq hv hok.1 hlen
    have hlast := hB on.length (Nat.le_refl _)
    have hcov := covers_iff hv hlast.2.1
    -- the first place, from behind
    have hloop : ∃ v1 v2, loopR (DeckEndsL_c1 b bits n) (DeckEndsL_b1 b bits n) on.length 0 (IntKind.i64.wrap ((on.length : Int) - 1), -1) = .brk (v1, v2) ∧ ((v2 = -1 ∧ ∀ j, j < on.length → decide (levelD b (accD b on (j + 1)) < 2) = false) ∨ ∃ i : Nat, v2 = (i : Int) ∧ i < on.length ∧ decide (levelD b (accD b on (i + 1)) < 2) = true ∧ ∀ j, j < i → decide (levelD b (accD b on (j + 1)) < 2) = false) := by
      rcases loopR_keep (c := DeckEndsL_c1 b bits n) (b := DeckEndsL_b1 b bits n) (N := on.length) (fun k v => v.1 = (on.length : Int) - 1 - k ∧ ((v.2 = -1 ∧ ∀ j, on.length - k ≤ j → j < on.length → decide (levelD b (accD b on (j + 1)) < 2) = false) ∨ ∃ i : Nat, v.2 = (i : Int) ∧ i < on.length ∧ on.length - k ≤ i ∧ decide (levelD b (accD b on (i + 1)) < 2) = true ∧ ∀ j, on.length - k ≤ j → j < i → decide (levelD b (accD b on (j + 1)) < 2) = false)) (fun _ => False) (fun k v hk hp => by
        obtain ⟨v1, v2⟩ := v
        have h1 : v1 = (on.length : Int) - 1 - k := hp.1
        simp only [DeckEndsL_c1]; rw [decide_eq_true]; omega) (fun k v hk hp => by
        obtain ⟨v1, v2⟩ := v
        have h1 : v1 = (on.length : Int) - 1 - k := hp.1
        have h2 := hp.2
        simp only at h2
        have hi : v1 = ((on.length - 1 - k : Nat) : Int) := by omega
        have hcut : cut on 0 (IntKind.i64.wrap (v1 + 1)) = on.take (on.length - 1 - k + 1) := by
          rw [wrapI (by omega) (by omega), show v1 + 1 = ((on.length - 1 - k + 1 : Nat) : Int) by omega, cut_take]
        have hbd := hB (on.length - 1 - k + 1) (by omega)
        have hen : endsL b (on.take (on.length - 1 - k + 1)) = accD b on (on.length - 1 - k + 1) := by
          rw [ends_eq hv (fun x hx => hok.1 x (List.mem_of_mem_take hx)) (by rw [List.length_take]; omega), acc_take b on (by omega)]
        have hc := covers_iff hv hbd.2.1
        refine .inl ⟨(IntKind.i64.wrap (v1 - 1), bif decide (levelD b (accD b on (on.length - 1 - k + 1)) < 2) then v1 else v2), ?_, ?_, ?_⟩
        · simp only [DeckEndsL_b1, hs2, hon]
          rw [hcut, hen, hc, Bool.not_not]
        · show IntKind.i64.wrap (v1 - 1) = _
          rw [wrapI (by omega) (by omega)]; omega
        · show ((bif _ then v1 else v2) = -1 ∧ _) ∨ _
          cases hbad : decide (levelD b (accD b on (on.length - 1 - k + 1)) < 2) with
          | true =>
            exact .inr ⟨on.length - 1 - k, hi, by omega, by omega, hbad, fun j h3 h4 => by omega⟩
          | false =>
            rcases h2 with ⟨h3, h4⟩ | ⟨i, h3, h4, h5, h6, h7⟩
            · refine .inl ⟨h3, fun j h5 h6 => ?_⟩
              by_cases e : j = on.length - 1 - k
              · rw [e]; exact hbad
              · exact h4 j (by omega) h6
            · refine .inr ⟨i, h3, h4, by omega, h6, fun j h8 h9 => ?_⟩
              by_cases e : j = on.length - 1 - k
              · rw [e]; exact hbad
              · exact h7 j (by omega) h9) (IntKind.i64.wrap ((on.length : Int) - 1), -1) ⟨by show IntKind.i64.wrap ((on.length : Int) - 1) = _; rw [wrapI (by omega) (by omega)]; omega, .inl ⟨rfl, fun j h1 h2 => by omega⟩⟩ with ⟨v, e, hp⟩ | ⟨r, e, hf⟩
      · refine ⟨v.1, v.2, e, ?_⟩
        rcases hp.2 with ⟨h3, h4⟩ | ⟨i, h3, h4, h5, h6, h7⟩
        · exact .inl ⟨h3, fun j hj => h4 j (by omega) hj⟩
        · exact .inr ⟨i, h3, h4, h6, fun j hj => h7 j (by omega) hj⟩
      · exact hf.elim
    obtain ⟨v1, v2, he, hv2⟩ := hloop
    rw [he]
    simp only
    rw [hE, listA_eq hv hok, levelA_eq hv hok, last_acc, hcov, rule_wrap hv]
    have hg : (((((((accD b on on.length, (0 : Int)) : Span × Int).2 != 0) || (((levelD b (accD b on on.length), (0 : Int)) : Int × Int).2 != 0)) || (!((accD b on on.length).lo == (accD b on on.length).lo && (accD b on on.length).hi == (accD b on on.length).hi))) || (!((levelD b (accD b on on.length) == 2) == (!decide (levelD b (accD b on on.length) < 2))))) || (!((levelD b (accD b on on.length) == 0) == ((decide ((accD b on on.length).lo > b.rule)) || (decide ((accD b on on.length).hi < (-b.rule))))))) = false := by
      have hr := hv.rule
      simp only [bne_self_eq_false, beq_self_eq_true, Bool.and_self, Bool.not_true, Bool.or_false, Bool.false_or]
      rcases level_cases hv hlast.2.1 with ⟨e, h3⟩ | ⟨e, h3⟩ | ⟨e, h3⟩
      · rw [e, decide_eq_false (show ¬ (accD b on on.length).lo > b.rule by omega), decide_eq_false (show ¬ (accD b on on.length).hi < -b.rule by omega)]; rfl
      · rw [e, decide_eq_false (show ¬ (accD b on on.length).lo > b.rule by omega), decide_eq_false (show ¬ (accD b on on.length).hi < -b.rule by omega)]; rfl
      · rw [e]
        rcases h3.2 with h4 | h4
        · rw [decide_eq_true (show (accD b on on.length).lo > b.rule from h4)]; rfl
        · rw [decide_eq_true (show (accD b on on.length).hi < -b.rule from h4), Bool.or_true]; rfl
    simp only at hg
    rw [hg, tiltsA_eq hv hok]
    rcases hv2 with ⟨h1, h2⟩ | ⟨i, h1, h2, h3, h4⟩
    · rw [h1]
      have hno : tiltQ b on = none := tilt_sure.2 ((sure_take on zSpan).2 h2)
      rw [hno]; rfl
    · rw [h1, decide_eq_false (show ¬ (i : Int) < 0 by omega)]
      cases htq : tiltQ b on with
      | none => rw [tilt_no htq i h2] at h3; cases h3
      | some y =>
        obtain ⟨i2, g1, g2, g3, g4⟩ := tilt_first htq
        have : i2 = i := by
          rcases Nat.lt_trichotomy i2 i with h | h | h
          · rw [h4 i2 h] at g3; cases g3
          · exact h
          · rw [g4 i h] at h3; cases h3
        subst this
        simp only [g2]
        simp
end Go.Proofs.YthfnedbpmdkdjaaDoor.D
namespace Go.Proofs.YthfnedbpmdkdjaaDoor.D
open Go Go.ChangeShapes Go.WideShapes Go.RowKit Go.Proofs.YthfnedbpmdkdjaaDoor.Eng Go.Proofs.YthfnedbpmdkdjaaDoor.Cm
set_option linter.unusedVariables false
set_option linter.unusedSimpArgs false
set_option maxRecDepth 100000
namespace DeckEnds
theorem door_met_deckEnds (os : Os) (args : Array Value) : laidMetH Tryd.prog Rows.deckEndsRow.laid ((World.doorLaid Tryd.prog 30 os).forCall (fun _ _ => 0) ⟨#[], args, []⟩).memory :=
  laidMetH_of_parts3 (fuel := 8) (laidMet_of_run' 8 (by kernel_rfl) (by kernel_rfl)) (by kernel_rfl) (by kernel_rfl)
theorem contract (H : Type) (enc : TypeId × Value → H) (W : World) (base : Nat) (args : Array Value) (ds gs : List (DataW H)) (before : List MemPlace)
    (hval : ∀ (j : Nat) t v, Tryd.f7.params[j]? = some t → args[j]? = some v → Value.okWide Tryd.prog W .any base t v)
    (hW : DataW.Whole enc Tryd.prog Tryd.f7.params.toList Rows.deckEndsSpec.vars false W args.toList ds gs before)
    (hsz0 : (DataW.weightsEach Tryd.prog (Tryd.f7.params.toList ++ []) (ds ++ gs)).all (fun x => decide (x ≤ reachBytes)) = true) (hL : laidMetH Tryd.prog Rows.deckEndsRow.laid W) (hS : W.ShapedOpen Tryd.prog) :
    Calls Tryd.prog 7 args W fun e W' => ∃ v, e = .returned v ∧ Rows.deckEndsSpec.post enc Tryd.prog Tryd.f7 false true false false W args v W' := by
  have hW' := hW
  obtain ⟨p, q, hA0, hV, rfl, hfz, hnd⟩ := hW
  have hA : DataW.TrodAll enc Tryd.prog W 0 (fun _ => true) true Tryd.f7.params.toList args.toList ds p := hA0
  rw [Tryd.params7] at hA hval hsz0
  clear hA0
  obtain ⟨v0, vs0, d0, ds0, p0, q0, hargs, rfl, rfl, h0, r0⟩ := trodAll_cons hA
  obtain ⟨v1, vs1, d1, ds1, p1, q1, rfl, rfl, rfl, h1, r1⟩ := trodAll_cons r0
  obtain ⟨v2, vs2, d2, ds2, p2, q2, rfl, rfl, rfl, h2, r2⟩ := trodAll_cons r1
  obtain ⟨rfl, rfl, rfl⟩ := trodAll_nil r2
  obtain rfl : args = #[v0, v1, v2] := by apply Array.ext'; rw [hargs]
  obtain ⟨rfl, rfl⟩ := trodVars_none hV
  have hsz : (DataW.weightsEach Tryd.prog [24, 33, 3] [d0, d1, d2]).all (fun x => decide (x ≤ reachBytes)) = true := by simpa using hsz0
  have hb0 : Wb Tryd.prog 24 d0 := Bd_each hsz (j := 0) rfl rfl
  obtain ⟨c0, rfl, ⟨g0_0, x0, y0, q0_0, q0_1, q0_2, _⟩⟩ := arg_agg Tryd.underlying24 (hval 0 24 v0 rfl rfl) h0 hb0 opn24
  rw [agg_of y0] at *
  have hb1 : Wb Tryd.prog 33 d1 := Bd_each hsz (j := 1) rfl rfl
  obtain ⟨x1, q1_0⟩ := arg_slice (φ := fun v => ∃ b : List Int, (Reads W v 1 b encI 0 ∧ (∀ a ∈ b, i64B a) ∧ b.length * 8 ≤ reachBytes)) Tryd.underlying33 (hval 1 33 v1 rfl rfl) h1 hb1 (opn33.mono fun cs ⟨g, b, h1, h2, _⟩ => ⟨g, h1, b, h2⟩)
  obtain ⟨x2, rfl, q2_0⟩ := arg_int Tryd.underlying3 (hval 2 3 v2 rfl rfl) h2
  have ha := deck_of hS hL
  have hc := DeckEndsL_calls g0_0 v1 x0 x1 x2 W q0_0.1 q1_0.1 ha.1 ha.2
  refine hc.mono fun e W' ⟨he, hb⟩ => ?_
  refine ⟨.bool true, he.trans (by rw [DeckEnds_true x0 x1 x2]), law_post laidOut (fun u hu => ?_) hW' rfl (by kernel_rfl) Tryd.underlying4 rfl rfl rfl hb⟩
  have hall : ([24, 33, 3] : List TypeId).all (fun u => Tryd.prog.readableRec u && decide (u < Tryd.prog.types.size)) = true := by kernel_rfl
  have hu' : u ∈ ([24, 33, 3] : List TypeId) := hu
  have := List.all_eq_true.1 hall u hu'
  simp only [Bool.and_eq_true, decide_eq_true_eq] at this
  exact this
theorem reads (os : Os) {H : Type} (enc : TypeId × Value → H) : ∃ places, DataW.whole enc Tryd.prog ((World.doorLaid Tryd.prog 30 os).forCall (fun _ _ => 0) ⟨#[], #[.agg #[.slice none 0 0, .int .i64 0, .int .i64 0], .slice none 0 0, .int .i64 0], []⟩).memory Tryd.f7.params.toList Rows.deckEndsSpec.vars false (#[.agg #[.slice none 0 0, .int .i64 0, .int .i64 0], .slice none 0 0, .int .i64 0] : Array Value).toList 8 = some ([.agg [.nil, .lit (.int .i64 0), .lit (.int .i64 0)], .nil, .lit (.int .i64 0)], [], places) :=
  ⟨[], by kernel_rfl⟩
set_option maxRecDepth 100000 in
theorem lifted (os : Os) (started : os.Started) (H : Type) (enc : TypeId × Value → H) (F : Stop.Interp) :
    ReturnsInHanded {} Tryd.checked os 7 .any ((OpenSpec.ofChange Rows.deckEndsSpec).preRow enc Tryd.prog Tryd.f7 Rows.deckEndsRow.domain false Rows.deckEndsRow.laid) (((OpenSpec.ofChange Rows.deckEndsSpec).at F).post enc Tryd.prog Tryd.f7 false true false false) := by
  obtain ⟨places, hx⟩ := reads os enc
  refine returnsInHanded_of_row (C := Tryd.checked) (s := OpenSpec.ofChange Rows.deckEndsSpec) own started (by kernel_rfl) Tryd.func7
    (witness_row_atRef (enc := enc) (C := Tryd.checked) false (World.doorLaid Tryd.prog 30 os) #[.agg #[.slice none 0 0, .int .i64 0, .int .i64 0], .slice none 0 0, .int .i64 0] rfl (by kernel_rfl) (by kernel_rfl) (by kernel_rfl)
      (OpenSpec.preRow_of_cond 8 hx (by kernel_rfl) (fun k hk => by cases hk) (by kernel_rfl) (door_met_deckEnds os _))) ?_
  intro W base args ds gs before hval hW _ hcond hsz hL hS _
  exact contract H enc W base args ds gs before hval hW hsz hL hS
theorem said : Rows.DeckEndsSaid :=
  OpenClaim.holds_of_cond 7 Tryd.f7 rfl rfl rfl rfl rfl rfl rfl ⟨rfl, rfl, rfl, rfl, rfl⟩ rfl rfl rfl rfl rfl (by kernel_rfl) Tryd.func7 (by kernel_rfl)
    (of_decide_eq_true (by kernel_rfl)) (by unfold Func.isWrapper; first | (rw [if_pos (by decide +kernel)]; kernel_rfl) | (rw [if_neg (by decide +kernel)]; exact ⟨rfl, rfl⟩))
    (fun os started H enc _ F => by rw [OpenClaim.pre_eq_preRow]; exact lifted os started H enc F)
theorem plain (f : FuncId) (fn : Func) (hf : Tryd.pinned.checked.prog.funcNamed "prow/prowlaw03.DeckEnds" = some f) (hfn : Tryd.pinned.checked.prog.funcs[f]? = some fn) :
    false = Tryd.pinned.checked.prog.looks [] ∧ ∀ (j : Nat) t, fn.params[j]? = some t → Tryd.pinned.checked.prog.wantsStandIn t = false := by
  obtain rfl : f = 7 := Option.some.inj ((show Tryd.prog.funcNamed "prow/prowlaw03.DeckEnds" = some 7 by kernel_rfl).symm.trans hf) |>.symm
  obtain rfl : fn = Tryd.f7 := (Option.some.inj (Tryd.func7.symm.trans hfn)).symm
  refine ⟨by kernel_rfl, fun j t ht => ?_⟩
  rw [Tryd.params7] at ht
  have hm : t ∈ ([24, 33, 3] : List TypeId) := by simpa using Array.mem_of_getElem? ht
  have hall : (([24, 33, 3] : List TypeId).all fun u => !Tryd.prog.wantsStandIn u) = true := by kernel_rfl
  exact (show Tryd.prog.wantsStandIn t = false by simpa using List.all_eq_true.1 hall t hm)
theorem card : Rows.DeckEndsCardSaid :=
  Claim7.holds_tied_plain_at .later [] _ _ _ _ said (fun _ h => by cases h) (by kernel_rfl) (fun _ h => by cases h) deckEnds_row_tie rfl ⟨rfl, rfl⟩ (by kernel_rfl) rfl plain (by kernel_rfl)
end DeckEnds
end Go.Proofs.YthfnedbpmdkdjaaDoor.D
theorem Go.Proofs.YthfnedbpmdkdjaaDoor.deckEnds_holds : Go.Proofs.YthfnedbpmdkdjaaDoor.Rows.DeckEndsCardSaid := Go.Proofs.YthfnedbpmdkdjaaDoor.D.DeckEnds.card
