/- Parts of the proof of DeckKnown: the engine, contracts of functions, plain lemmas. -/
import Derived.Test.YthfnedbpmdkdjaaDoorDeckKnownA1
import Derived.ArgAppend
import Derived.Below
import Derived.Carry
import Derived.ChangeKeysEq
import Derived.ControlIn
import Derived.Deep.DeepHandedRow
import Derived.Deep.Draws
import Derived.Deep.Quiet
import Derived.Deep.Slices
import Derived.KernelRfl
import Derived.Laws.AppendOwn
import Derived.Laws.Cells
import Derived.Laws.CopyRow
import Derived.Laws.IdiomRangeMap
import Derived.Laws.OwnMore
import Derived.Laws.Rows
import Derived.MapKept
import Derived.Maps.AppendAt
import Derived.OpenShut
import Derived.OrdersHeld
import Derived.OrdersIn
import Derived.ProofKit
import Derived.RangeFuncLeaves
import Derived.RangeFuncNested
import Derived.RangeFuncOwn
import Derived.SizedLaws
import Derived.Test.YthfnedbpmdkdjaaDoorProg
import Derived.Test.YthfnedbpmdkdjaaDoorRows
import Derived.WalkKit
import Derived.WideKeyRuns
namespace Go.Proofs.YthfnedbpmdkdjaaDoor.D
open Go Go.RowKit Go.Proofs.YthfnedbpmdkdjaaDoor.Eng Go.Proofs.YthfnedbpmdkdjaaDoor.Cm
set_option linter.unusedVariables false
set_option linter.unusedSimpArgs false
set_option linter.unusedSectionVars false
def StowOk (b : DBook) (on : List Place) : Prop := (∀ x ∈ on, isPl b x.load x.lane = true) ∧ (on.map (·.load)).Nodup
theorem isPl_spec {b : DBook} {i l : Int} (h : isPl b i l = true) : (0 ≤ i ∧ i < b.loads.length) ∧ (0 ≤ l ∧ l < 3) ∧ laneB (b.loads.getD i.toNat zLoad) l = true := by
  unfold isPl at h
  simp only [Bool.and_eq_true, decide_eq_true_eq] at h
  exact ⟨⟨h.1.1.1.1, h.1.1.1.2⟩, ⟨h.1.1.2, h.1.2⟩, h.2⟩
theorem take_map_snoc {α β : Type} {l : List α} {k : Nat} (f : α → β) (z : α) (h : k < l.length) : (l.take (k + 1)).map f = (l.take k).map f ++ [f (l.getD k z)] := by
  rw [List.take_add_one, List.getElem?_eq_getElem h, List.map_append, List.getD_eq_getElem?_getD, List.getElem?_eq_getElem h]
  rfl
structure NowD (b : DBook) (on : List Place) (k : Nat) (v : Nat → Int) : Prop where
  pl : ∀ x ∈ on.take k, isPl b x.load x.lane = true
  nd : ((on.take k).map (·.load)).Nodup
  on : ∀ q : Nat, 0 < v q ↔ (q : Int) ∈ (on.take k).map (·.load)
theorem isStowD_iff {b : DBook} {on : List Place} (hb : b.loads.length ≤ 5) : isStowD b on = true ↔ StowOk b on := by
  have hkey := loopR_keep (c := isStowD_c1 b on) (b := isStowD_b1 b on) (N := on.length) (NowD b on) (fun r => r = false ∧ ¬ StowOk b on) (fun k v hk hp => by simp only [isStowD_c1]; rw [decide_eq_true]; omega) (fun k v hk hp => by
    have hm := getD_mem (z := zPlace) hk
    have hts := take_map_snoc (fun x : Place => x.load) zPlace hk
    by_cases hpl : isPl b (on.getD k zPlace).load (on.getD k zPlace).lane = true
    · have hs := isPl_spec hpl
      by_cases hin : (on.getD k zPlace).load ∈ (on.take k).map (·.load)
      · right
        refine ⟨false, ?_, rfl, fun hok => ?_⟩
        · have h0 : 0 < v (on.getD k zPlace).load.toNat := (hp.on _).2 (by rw [show (((on.getD k zPlace).load.toNat : Nat) : Int) = (on.getD k zPlace).load by omega]; exact hin)
          simp only [isStowD_b1]
          rw [decide_eq_true h0, Bool.or_true, cond_true]
        · have h1 := hok.2
          have h2 : ((on.take (k + 1)).map (·.load)).Nodup := by
            rw [List.map_take]; exact h1.sublist (List.take_sublist _ _)
          rw [hts, List.nodup_append] at h2
          exact h2.2.2 _ hin _ (List.mem_singleton.2 rfl) rfl
      · left
        have h0 : ¬ 0 < v (on.getD k zPlace).load.toNat := fun h => hin (by have := (hp.on _).1 h; rwa [show (((on.getD k zPlace).load.toNat : Nat) : Int) = (on.getD k zPlace).load by omega] at this)
        refine ⟨fun q => if q = (on.getD k zPlace).load.toNat then IntKind.i64.wrap ((on.getD k zPlace).lane + 1) else v q, ?_, ?_⟩
        · simp only [isStowD_b1]
          rw [atP_eq, hpl, decide_eq_false h0, show ((on.getD k zPlace).load == (-1)) = false from beq_eq_false_iff_ne.2 (by omega)]
          simp only [Bool.not_true, Bool.false_and, Bool.or_false, cond_false]
        · refine ⟨fun x hx => ?_, ?_, fun q => ?_⟩
          · rw [List.take_add_one, List.getElem?_eq_getElem hk] at hx
            rcases List.mem_append.1 hx with hx | hx
            · exact hp.pl x hx
            · simp only [Option.toList_some, List.mem_singleton] at hx
              subst hx
              rw [List.getD_eq_getElem?_getD, List.getElem?_eq_getElem hk] at hpl
              exact hpl
          · rw [hts, List.nodup_append]
            refine ⟨hp.nd, by simp, fun a ha c hc e => ?_⟩
            rw [List.mem_singleton.1 hc] at e
            exact hin (e ▸ ha)
          · rw [hts, List.mem_append, List.mem_singleton]
            show 0 < (if q = _ then _ else _) ↔ _
            by_cases e : q = (on.getD k zPlace).load.toNat
            · rw [if_pos e, wrapI (by omega) (by omega)]
              exact ⟨fun _ => .inr (by omega), fun _ => by omega⟩
            · rw [if_neg e]
              exact ⟨fun h => .inl ((hp.on q).1 h), fun h => h.elim (fun h => (hp.on q).2 h) (fun h => absurd h (by omega))⟩
    · right
      refine ⟨false, ?_, rfl, fun hok => hpl (hok.1 _ hm)⟩
      simp only [isStowD_b1]
      rw [atP_eq, Bool.eq_false_iff.2 hpl]
      rfl) (fun _ => 0) ⟨fun x hx => by simp at hx, by simp, fun q => by simp⟩
  unfold isStowD
  rcases hkey with ⟨v, e, hp⟩ | ⟨r, e, rfl, hq⟩
  · rw [e]
    have h1 := hp.pl
    have h2 := hp.nd
    rw [List.take_length] at h1 h2
    refine ⟨fun _ => ⟨h1, h2⟩, fun _ => ?_⟩
    simp only
    by_cases h0 : on.length = 0
    · rw [h0]; rfl
    · have hm := getD_mem (z := zPlace) (show 0 < on.length by omega)
      have hs := isPl_spec (h1 _ hm)
      have h3 : 0 < v (on.getD 0 zPlace).load.toNat := (hp.on _).2 (by rw [List.take_length, show (((on.getD 0 zPlace).load.toNat : Nat) : Int) = (on.getD 0 zPlace).load by omega]; exact List.mem_map.2 ⟨_, hm, rfl⟩)
      rw [Bool.or_eq_true, Bool.not_eq_true']
      right
      unfold arrEq
      rw [beq_eq_false_iff_ne]
      intro h
      have h4 := List.map_inj_left.1 h (on.getD 0 zPlace).load.toNat (List.mem_range.2 (by omega))
      omega
  · rw [e]
    exact ⟨fun h => by simp at h, fun h => absurd h hq⟩
theorem places_of {b : DBook} {on : List Place} (h : StowOk b on) : PlacesD b on := fun x hx => by
  have := isPl_spec (h.1 x hx)
  exact ⟨this.1, this.2.1⟩
theorem askD_ok {b : DBook} {on : List Place} (hb : b.loads.length ≤ 5) (h : askD b on = 0) : StowOk b on := by
  unfold askD at h
  cases hs : isStowD b on with
  | true => exact (isStowD_iff hb).1 hs
  | false => rw [hs] at h; exact absurd h (by decide)
theorem askD_ne {b : DBook} {on : List Place} (h : (askD b on != 0) = false) : askD b on = 0 := bne_eq_false_iff_eq.1 h
end Go.Proofs.YthfnedbpmdkdjaaDoor.D
namespace Go.Proofs.YthfnedbpmdkdjaaDoor.D
open Go Go.RowKit Go.Proofs.YthfnedbpmdkdjaaDoor.Eng Go.Proofs.YthfnedbpmdkdjaaDoor.Cm
set_option linter.unusedVariables false
set_option linter.unusedSimpArgs false
set_option linter.unusedSectionVars false
def lastS (l : List (Int × Span)) : Span := (l.getLast?.map (·.2)).getD zSpan
theorem lastS_snoc (l : List (Int × Span)) (x : Int × Span) : lastS (l ++ [x]) = x.2 := by simp [lastS]
theorem lists_ok7 {cx : Cx} {s s1 : AS} {L : List (Nat × HE)} {b : DBook} {gm : Nat} (h1 : s.hp = L) (h2 : s.nx = 7)
    (h3 : s1.hp = (9, .clo 117 [] [.s (.p 8 0), .s (.p 7 0)]) :: (8, .box 25 [.ref 1]) :: (7, .box 94 [.ref 0, .int .i64 b.rule, .int .i64 b.most, .v (.map (some gm))]) :: L) (h4 : s1.nx = 10) :
    CallOk Tryd.prog cx s 88 [.g [.ref 0, .int .i64 b.rule, .int .i64 b.most, .v (.map (some gm))], .s (.ref 1)] (.s (.ref 9)) s1 := by
  intro n w hh
  have hh2 : HSat ⟨cx.w0, cx.ok, n, 7, true⟩ n ⟨6, env0 0 [.g [.ref 0, .int .i64 b.rule, .int .i64 b.most, .v (.map (some gm))], .s (.ref 1)], L, 7, []⟩ w :=
    (HSat.top (b := true) hh).of_same (s2 := ⟨6, env0 0 [.g [.ref 0, .int .i64 b.rule, .int .i64 b.most, .v (.map (some gm))], .s (.ref 1)], L, 7, []⟩) h1.symm h2.symm |> fun h => by rw [h2] at h; exact h
  refine calls_of_WP (cx := ⟨cx.w0, cx.ok, n, 7, true⟩) (n := n) (vs := [.g [.ref 0, .int .i64 b.rule, .int .i64 b.most, .v (.map (some gm))], .s (.ref 1)]) (hp := L) (nx := 7) tt_ok Tryd.func88 rfl rfl rfl (by kernel_rfl) hh2 (vsOk (by kernel_rfl)) ?_
  refine WP_seq (WP_region (WPO_all tt_ok (by kernel_rfl) ?_))
  refine WP_seq (WP_region (WPO_all tt_ok (by kernel_rfl) ?_))
  refine WP_ret ?_
  exact ⟨.s (.ref 9), by kernel_rfl, fun n1 w' h => ⟨n1, fun id hid => h.ini id (by rw [← h2]; exact hid), rfl, ((h.of_same (s2 := s1) (by rw [h3]; kernel_rfl) (by rw [h4]; kernel_rfl)).back (fun id hid => hh.ini id hid) (by have := hh.inx; rw [h2] at this; exact this))⟩⟩
theorem listsA_iter (b : DBook) (on : List Place) (gm : Nat) (hon : PlacesD b on) (hn : on.length ≤ 9223372036854775807) : IterOk Tryd.prog 117 [.s (.p 8 0), .s (.p 7 0)] [(8, .box 25 [.ref 1]), (7, .box 94 [.ref 0, .int .i64 b.rule, .int .i64 b.most, .v (.map (some gm))])] [(0, .sl .ro 61 3 b.loads encLoad zLoad), (1, .sl .ro 65 2 on encPlace zPlace), (2, mapF gm (plL b) plKey plVal), (3, .pf LanesAt (· = 0))] 10 encY (listsD b on) := by
  intro cx n w L RF GR J Jx G0 hJ hJx hY hh
  have e : (#[.func (.yield L) #[] #[]] ++ (([.s (.p 8 0), .s (.p 7 0)] : List AV).map (AV.c n)).toArray : Array Value) = (([.s (.v (.func (.yield L) #[] #[])), .s (.p 8 0), .s (.p 7 0)] : List AV).map (AV.c n)).toArray := by simp [AV.c, AC.c]
  rw [e]
  refine calls_of_WP (cx := ⟨cx.w0, cx.ok, n, 12, true⟩) (n := n) (vs := [.s (.v (.func (.yield L) #[] #[])), .s (.p 8 0), .s (.p 7 0)]) (hp := [(10, .jf (J ([]) G0) G0), (11, .pf RF GR), (8, .box 25 [.ref 1]), (7, .box 94 [.ref 0, .int .i64 b.rule, .int .i64 b.most, .v (.map (some gm))]), (0, .sl .ro 61 3 b.loads encLoad zLoad), (1, .sl .ro 65 2 on encPlace zPlace), (2, mapF gm (plL b) plKey plVal), (3, .pf LanesAt (· = 0))]) (nx := 12) tt_ok Tryd.func117 rfl rfl rfl (by kernel_rfl) (hh.top.slots) (vsOk (by kernel_rfl)) ?_
  refine WP_seq (WP_region (WPO_all tt_ok (by kernel_rfl) ?_))
  refine WP_seq (WP_region (WPO_all tt_ok (by kernel_rfl) ?_))
  refine WP_block (WP_loop (σ := Int × Int × Int × List (Int × Span) × (Nat → Prop)) (fun zz => ⟨35, [(10, [], .s (.int .i64 zz.1)), (9, [], .s (.int .i64 (on.length : Int))), (8, [], .s (.ref 1)), (4, [], .s (.p 12 0)), (0, [], .s (.v (.func (.yield L) #[] #[]))), (2, [], .s (.p 7 0))], [(12, .box 97 [.int .i64 zz.2.1, .int .i64 zz.2.2.1]), (10, .jf (J zz.2.2.2.1 zz.2.2.2.2) zz.2.2.2.2), (11, .pf RF GR), (8, .box 25 [.ref 1]), (7, .box 94 [.ref 0, .int .i64 b.rule, .int .i64 b.most, .v (.map (some gm))]), (0, .sl .ro 61 3 b.loads encLoad zLoad), (1, .sl .ro 65 2 on encPlace zPlace), (2, mapF gm (plL b) plKey plVal), (3, .pf LanesAt (· = 0))], 13, []⟩) (fun zz => ∃ k : Nat, k ≤ on.length ∧ zz.1 = k ∧ zz.2.1 = (accD b on k).lo ∧ zz.2.2.1 = (accD b on k).hi ∧ zz.2.2.2.1 = preD b on k) (fun zz => on.length - zz.1.toNat) (0, 0, 0, [], G0) (⟨0, by omega, rfl, rfl, rfl, rfl⟩) (Le_sel (ts := [10, 9, 8, 4, 0, 2]) (ids := [12, 10, 11, 8, 7, 0, 1, 2, 3]) (nx := 13) (by kernel_rfl)) ?_)
  rintro ⟨ii, lo, hi, pre, G⟩ hinv
  obtain ⟨k, hk0, hii, hlo, hhi, hpre⟩ := hinv
  simp only at hii hlo hhi hpre
  subst hii
  subst hlo
  subst hhi
  subst hpre
  refine WP_seq (WP_region (WPO_all tt_ok (by kernel_rfl) ?_))
  refine WP_seq (WP_cond (decide ((k : Int) < (on.length : Int))) (by kernel_rfl) (fun hc1 => ?_) (fun hc1 => ?_))
  · have hc1 := of_decide_eq_true hc1
    have hk : k < on.length := by omega
    obtain ⟨hx1, hx2⟩ := hon (on.getD k zPlace) (getD_mem hk)
    refine WP_skip ?_
    refine WP_seq (WP_block ?_)
    refine WP_seq (WP_region (WPO_run tt_ok 1 (by kernel_rfl) ?_))
    refine IX tt_ok (k : Int) on.length [] (by kernel_rfl) (fun hG => ⟨by omega, by omega⟩) ?_
    refine WPO_all tt_ok (by kernel_rfl) ?_
    refine WP_seq (WP_drawHM 14 [] [12] (by kernel_rfl) (by kernel_rfl) ?_)
    refine H_run tt_ok [0, 1] (f' := 12) (by kernel_rfl) (by kernel_rfl) (by kernel_rfl) ?_
    refine H_GIX tt_ok 2 (on.getD k zPlace).lane 3 [] (by kernel_rfl) (fun hG => hx2) (by kernel_rfl) (by kernel_rfl) ?_
    refine H_LDG tt_ok 3 126 0 (0 + (on.getD k zPlace).lane.toNat * 1) (some 18) [.v (.func (.func 147) #[] #[]), .v (.func (.func 145) #[] #[]), .v (.func (.func 148) #[] #[])] 127 (.s (.v (.func (.func (laneK (on.getD k zPlace).lane)) #[] #[]))) (by kernel_rfl) (lane_sub hx2) (by kernel_rfl) (fun _ nV w h => (h.ents (3, .pf LanesAt (· = 0)) (fnd_mem (by kernel_rfl))).1) (by kernel_rfl) (by kernel_rfl) (by kernel_rfl) ?_
    refine H_run tt_ok [4, 5, 6, 7, 8, 9] (f' := 4) (by kernel_rfl) (by kernel_rfl) (by kernel_rfl) ?_
    refine H_IX tt_ok 10 (on.getD k zPlace).load b.loads.length [] (by kernel_rfl) (fun hG => hx1) (by kernel_rfl) (by kernel_rfl) ?_
    refine H_step 11 (by kernel_rfl) (by kernel_rfl) (fun hfz cx' hx1 hx2 => ?_)
    refine WPO_all tt_ok (by kernel_rfl) ?_
    refine ⟨rfl, (hfz.fnds [13, 12, 10, 11, 8, 7, 0, 1, 2, 3] (by kernel_rfl) ⟨by kernel_rfl, by kernel_rfl, by kernel_rfl, by kernel_rfl, by kernel_rfl, by kernel_rfl, by kernel_rfl, by kernel_rfl, by kernel_rfl, by kernel_rfl, trivial⟩ (by kernel_rfl)), ?_⟩
    refine H_run tt_ok [12] (f' := 1) (by kernel_rfl) (by kernel_rfl) (by kernel_rfl) ?_
    refine H_step 13 (by kernel_rfl) (by kernel_rfl) (fun hfz cx' hx1 hx2 => ?_)
    refine CALL (laneK (on.getD k zPlace).lane) [.g [.int .i64 (accD b on k).lo, .int .i64 (accD b on k).hi], .g [.int .i64 (b.loads.getD (on.getD k zPlace).load.toNat zLoad).w.lo, .int .i64 (b.loads.getD (on.getD k zPlace).load.toNat zLoad).w.hi]] (.g [.int .i64 (laneF (on.getD k zPlace).lane (accD b on k) (b.loads.getD (on.getD k zPlace).load.toNat zLoad).w).lo, .int .i64 (laneF (on.getD k zPlace).lane (accD b on k) (b.loads.getD (on.getD k zPlace).load.toNat zLoad).w).hi]) [] (by kernel_rfl) (lane_goes (on.getD k zPlace).lane) (by kernel_rfl) (by kernel_rfl) (fun _ nV w h => lane_calls (on.getD k zPlace).lane (accD b on k) (b.loads.getD (on.getD k zPlace).load.toNat zLoad).w w) ?_
    refine WPO_end (by kernel_rfl) ⟨rfl, (hfz.fnds [13, 12, 10, 11, 8, 7, 0, 1, 2, 3] (by kernel_rfl) ⟨by kernel_rfl, by kernel_rfl, by kernel_rfl, by kernel_rfl, by kernel_rfl, by kernel_rfl, by kernel_rfl, by kernel_rfl, by kernel_rfl, by kernel_rfl, trivial⟩ (by kernel_rfl)), ?_⟩
    refine H_done (by kernel_rfl) ?_
    refine ⟨(by kernel_rfl), ?_⟩
    refine H_step 14 (by kernel_rfl) (by kernel_rfl) (fun hfz cx' hx1 hx2 => ?_)
    refine WPO_all tt_ok (by kernel_rfl) ?_
    refine ⟨rfl, (hfz.fnds [13, 10, 11, 8, 7, 0, 1, 2, 3] (by kernel_rfl) ⟨by kernel_rfl, by kernel_rfl, by kernel_rfl, by kernel_rfl, by kernel_rfl, by kernel_rfl, by kernel_rfl, by kernel_rfl, by kernel_rfl, trivial⟩ (by kernel_rfl)), ?_⟩
    refine H_done (by kernel_rfl) ?_
    refine WP_seq (WP_yield tt_ok 3 (preD b on k) (itD b on k) L 10 11 [.s (.int .i64 (k : Int)), .g [.int .i64 (laneF (on.getD k zPlace).lane (accD b on k) (b.loads.getD (on.getD k zPlace).load.toNat zLoad).w).lo, .int .i64 (laneF (on.getD k zPlace).lane (accD b on k) (b.loads.getD (on.getD k zPlace).load.toNat zLoad).w).hi]] (some 32) G GR encY (listsD b on) RF J Jx (by kernel_rfl) (by kernel_rfl) (by kernel_rfl) (by kernel_rfl) hJ hJx hY (by (rw [← preD_succ]; exact preD_prefix (by omega))) (fun n => by (unfold itD; rw [accD_succ hk]; rfl)) (fun F' G' b => by kernel_rfl) (fun G' => ?_) (fun G' => ?_))
    · refine WP_cond (!true) (by kernel_rfl) (fun h => by cases h) (fun hc2 => ?_)
      refine WP_skip ?_
      refine WP_region (WPO_all tt_ok (by kernel_rfl) ?_)
      refine ⟨(IntKind.i64.wrap ((k : Int) + 1), (laneF (on.getD k zPlace).lane (accD b on k) (b.loads.getD (on.getD k zPlace).load.toNat zLoad).w).lo, (laneF (on.getD k zPlace).lane (accD b on k) (b.loads.getD (on.getD k zPlace).load.toNat zLoad).w).hi, preD b on k ++ [(itD b on k)], G'), ?_, ?_, Le_sel (ts := [10, 9, 8, 4, 0, 2]) (ids := [12, 10, 11, 8, 7, 0, 1, 2, 3]) (nx := 13) (by kernel_rfl)⟩
      · refine ⟨k + 1, by omega, by simp only; rw [wrapI (by omega) (by omega)]; rfl, ?_, ?_, by simp only; rw [preD_succ]⟩
        · rw [accD_succ hk]; rfl
        · rw [accD_succ hk]; rfl
      · simp only
        rw [wrapI (by omega) (by omega)]
        omega
    refine WP_cond (!false) (by kernel_rfl) (fun hc3 => ?_) (fun h => by cases h)
    refine WP_ret ?_
    exact ⟨.t [], by kernel_rfl, fun n1 w' h => ⟨⟨_, rfl⟩, n1, G', preD b on k ++ [(itD b on k)], fun id hid => h.ini id hid, .inr ⟨(by rw [← preD_succ]; exact preD_prefix (by omega)), (h.back hh.ini hh.inx).two (by kernel_rfl) (by kernel_rfl) rfl 12 hh.inx (by omega) (by omega)⟩⟩⟩
  have hc1 := of_decide_eq_false hc1
  refine WP_exit ?_
  have hkn : k = on.length := by omega
  exact ⟨.t [], by kernel_rfl, fun n1 w' h => ⟨⟨_, rfl⟩, n1, G, preD b on k, fun id hid => h.ini id hid, .inl ⟨by unfold listsD; rw [hkn], (h.back hh.ini hh.inx).two (by kernel_rfl) (by kernel_rfl) rfl 12 hh.inx (by omega) (by omega)⟩⟩⟩
def lastD (b : DBook) (on : List Place) : Span :=
  (lastS ((listsD b on)))
theorem lastD_calls (g0 g1 : Value) (gm : Nat) (b : DBook) (on : List Place) (w : World) (r0 : Reads w g0 3 b.loads encLoad zLoad) (r1 : Reads w g1 2 on encPlace zPlace) (hm : w.heap[gm]? = some (.map (ents (plL b) plKey plVal) (plL b).length)) (hla : LanesAt w) (hon : PlacesD b on) : Calls Tryd.prog 86 #[.agg #[g0, iv b.rule, iv b.most, .map (some gm)], g1] w fun e w' => e = .returned (.agg #[iv (lastD b on).lo, iv (lastD b on).hi]) ∧ Below w.heap.size w w' := by
  refine calls_of_WPM (cx := cx0 w (vn [g0, g1]) 2) (n := vn [g0, g1]) (vs := [.g [.ref 0, .int .i64 b.rule, .int .i64 b.most, .v (.map (some gm))], .s (.ref 1)]) (hp := [(0, .sl .ro 61 3 b.loads encLoad zLoad), (1, .sl .ro 65 2 on encPlace zPlace), (2, mapF gm (plL b) plKey plVal), (3, .pf LanesAt (· = 0))]) (nx := 4) tt_ok Tryd.func86 rfl rfl rfl (by kernel_rfl) (HSat_args (vn_one (by simp [r0.one, r1.one])) (by decide) ⟨⟨⟨fun _ => rfl, by decide, r0⟩, (Nat.le_of_ble_eq_true rfl)⟩, ⟨⟨fun _ => rfl, by decide, r1⟩, (Nat.le_of_ble_eq_true rfl)⟩, ⟨⟨hm, fun w1 w2 h1 hw => (hw gm rfl).trans h1, fun g hg => by cases hg; exact (Array.getElem?_eq_some_iff.1 hm).1⟩, (Nat.le_of_ble_eq_true rfl)⟩, ⟨⟨hla, fun w1 w2 h1 hw => (hw 0 rfl).trans h1, fun g hg => by cases hg; exact (Array.getElem?_eq_some_iff.1 hla).1⟩, (Nat.le_of_ble_eq_true rfl)⟩, trivial⟩) (vsOk (by kernel_rfl)) ?_
  have hl0 := Reads.len r0
  have hl1 := Reads.len r1
  refine WP_seq (WP_region (WPO_all tt_ok (by kernel_rfl) ?_))
  refine WP_seq (WP_region (WPO_all tt_ok (by kernel_rfl) ?_))
  refine WP_seq (WP_seq (WP_region (WPO_run tt_ok 2 (by kernel_rfl) ?_)))
  refine CALLN 88 [.g [.ref 0, .int .i64 b.rule, .int .i64 b.most, .v (.map (some gm))], .s (.ref 1)] ⟨16, [(10, [], .s (.ref 1)), (9, [], .g [.ref 0, .int .i64 b.rule, .int .i64 b.most, .v (.map (some gm))]), (5, [], .s (.p 6 0)), (8, [], .g [.int .i64 0, .int .i64 0]), (4, [], .s (.p 5 0)), (2, [], .s (.p 4 0)), (0, [], .g [.ref 0, .int .i64 b.rule, .int .i64 b.most, .v (.map (some gm))]), (1, [], .s (.ref 1))], [(9, .clo 117 [] [.s (.p 8 0), .s (.p 7 0)]), (8, .box 25 [.ref 1]), (7, .box 94 [.ref 0, .int .i64 b.rule, .int .i64 b.most, .v (.map (some gm))]), (6, .box 97 [.int .i64 0, .int .i64 0]), (5, .box 97 [.int .i64 0, .int .i64 0]), (4, .box 94 [.ref 0, .int .i64 b.rule, .int .i64 b.most, .v (.map (some gm))]), (0, .sl .ro 61 3 b.loads encLoad zLoad), (1, .sl .ro 65 2 on encPlace zPlace), (2, mapF gm (plL b) plKey plVal), (3, .pf LanesAt (· = 0))], 10, []⟩ (.s (.ref 9)) (by kernel_rfl) (goes_of (by kernel_rfl)) (by kernel_rfl) (by kernel_rfl) (more_ext 3 (by kernel_rfl) (by kernel_rfl) (by kernel_rfl)) ⟨(by kernel_rfl), (by kernel_rfl), (by kernel_rfl)⟩ (lists_ok7 (L := [(6, .box 97 [.int .i64 0, .int .i64 0]), (5, .box 97 [.int .i64 0, .int .i64 0]), (4, .box 94 [.ref 0, .int .i64 b.rule, .int .i64 b.most, .v (.map (some gm))]), (0, .sl .ro 61 3 b.loads encLoad zLoad), (1, .sl .ro 65 2 on encPlace zPlace), (2, mapF gm (plL b) plKey plVal), (3, .pf LanesAt (· = 0))]) (by kernel_rfl) (by kernel_rfl) (by kernel_rfl) (by kernel_rfl)) ?_
  refine WPO_nil ?_
  refine WP_block ?_
  refine WP_range tt_ok rfl (listsD b on) encY (fun x : Int × Span => ([.s (ai x.1), .g [ai x.2.lo, ai x.2.hi]] : List AV)) [5, 4] [(5, [], .s (.p 6 0)), (4, [], .s (.p 5 0))] 9 117 [.s (.p 8 0), .s (.p 7 0)] (fun pre => [(6, .box 97 [.int .i64 (lastS (pre)).lo, .int .i64 (lastS (pre)).hi]), (5, .box 97 [.int .i64 0, .int .i64 0]), (4, .box 94 [.ref 0, .int .i64 b.rule, .int .i64 b.most, .v (.map (some gm))])]) (fun _ _ => none) [(8, .box 25 [.ref 1]), (7, .box 94 [.ref 0, .int .i64 b.rule, .int .i64 b.most, .v (.map (some gm))])] [(0, .sl .ro 61 3 b.loads encLoad zLoad), (1, .sl .ro 65 2 on encPlace zPlace), (2, mapF gm (plL b) plKey plVal), (3, .pf LanesAt (· = 0))] (by kernel_rfl) (by kernel_rfl) (goes_of (by kernel_rfl)) (by kernel_rfl) ⟨by kernel_rfl, by kernel_rfl, by kernel_rfl, by kernel_rfl, by kernel_rfl, by kernel_rfl, by kernel_rfl, by kernel_rfl, by kernel_rfl, trivial⟩ (by kernel_rfl) (fun pre => (by kernel_rfl)) (fun c pre Mr h => by cases h) (by kernel_rfl) (fun x n => rfl) (fun x => rfl) (fun x v hv => by simp only [List.mem_cons, List.mem_nil_iff, or_false] at hv; rcases hv with rfl | rfl <;> rfl) (fun v hv => by simp at hv; rcases hv with rfl | rfl | rfl <;> kernel_rfl) (listsA_iter b on gm hon (by omega)) ?round ?done (fun D c pre Mr h => by cases h)
  case round =>
    intro pre x hpre w0 ok n0 L D FL FB hn0
    refine ⟨⟨16, [(13, [], .g [.int .i64 x.2.lo, .int .i64 x.2.hi]), (12, [], .s (.int .i64 x.1)), (5, [], .s (.p 6 0)), (4, [], .s (.p 5 0))], [(10, eL L FL), (11, eD D), (6, .box 97 [.int .i64 (lastS (pre)).lo, .int .i64 (lastS (pre)).hi]), (5, .box 97 [.int .i64 0, .int .i64 0]), (4, .box 94 [.ref 0, .int .i64 b.rule, .int .i64 b.most, .v (.map (some gm))]), (0, .sl .ro 61 3 b.loads encLoad zLoad), (1, .sl .ro 65 2 on encPlace zPlace), (2, mapF gm (plL b) plKey plVal), (3, .pf LanesAt (· = 0))], 12, []⟩, by kernel_rfl, ?_⟩
    refine WP_region (WPO_all tt_ok (by kernel_rfl) ?_)
    refine ⟨by kernel_rfl, ?_⟩
    refine WP_block ?_
    refine WP_region (WPO_all tt_ok (by kernel_rfl) ?_)
    simp only [RQ, lastS_snoc]
    exact Le_sel (ts := []) (ids := [10, 11, 6, 5, 4, 0, 1, 2, 3]) (nx := 12) (by kernel_rfl)
  case done =>
    intro D
    refine WP_seq (WP_region (WPO_all tt_ok (by kernel_rfl) ?_))
    refine WP_ret ?_
    exact .inr ⟨.g [.int .i64 (lastS ((listsD b on))).lo, .int .i64 (lastS ((listsD b on))).hi], D, 11, by kernel_rfl, by kernel_rfl, by kernel_rfl, fun nV w' h => ⟨by rw [show lastD b on = (lastS ((listsD b on))) from rfl]; rfl, h.bel⟩⟩
end Go.Proofs.YthfnedbpmdkdjaaDoor.D
namespace Go.Proofs.YthfnedbpmdkdjaaDoor.D
open Go Go.RowKit Go.Proofs.YthfnedbpmdkdjaaDoor.Eng Go.Proofs.YthfnedbpmdkdjaaDoor.Cm
set_option linter.unusedVariables false
set_option linter.unusedSimpArgs false
set_option linter.unusedSectionVars false
def listA (b : DBook) (on : List Place) : Span × Int :=
  (bif checkD b == 0 then (bif (askD b on) != 0 then ((⟨0, 0⟩ : Span), askD b on) else ((lastD b on), 0)) else (bif (checkD b) != 0 then ((⟨0, 0⟩ : Span), checkD b) else ((⟨0, 0⟩ : Span), checkD b)))
theorem listA_calls (g0 g1 : Value) (b : DBook) (on : List Place) (w : World) (r0 : Reads w g0 3 b.loads encLoad zLoad) (r1 : Reads w g1 2 on encPlace zPlace) (hnb : NobodyAt w) (hla : LanesAt w) : Calls Tryd.prog 30 #[.agg #[g0, iv b.rule, iv b.most], g1] w fun e w' => e = .returned (.tuple #[.agg #[iv (listA b on).1.lo, iv (listA b on).1.hi], iv (listA b on).2]) ∧ Below w.heap.size w w' := by
  cases hq : (checkD b == 0)
  · refine calls_of_WP (cx := cx0 w (vn [g0, g1]) 2) (n := vn [g0, g1]) (vs := [.g [.ref 0, .int .i64 b.rule, .int .i64 b.most], .s (.ref 1)]) (hp := [(0, .sl .ro 61 3 b.loads encLoad zLoad), (1, .sl .ro 65 2 on encPlace zPlace), (2, .pf NobodyAt (· = 1)), (3, .pf LanesAt (· = 0))]) (nx := 4) tt_ok Tryd.func30 rfl rfl rfl (by kernel_rfl) (HSat_args (vn_one (by simp [r0.one, r1.one])) (by decide) ⟨⟨⟨fun _ => rfl, by decide, r0⟩, (Nat.le_of_ble_eq_true rfl)⟩, ⟨⟨fun _ => rfl, by decide, r1⟩, (Nat.le_of_ble_eq_true rfl)⟩, ⟨⟨hnb, fun w1 w2 h1 hw => (hw 1 rfl).trans h1, fun g hg => by cases hg; exact (Array.getElem?_eq_some_iff.1 hnb).1⟩, (Nat.le_of_ble_eq_true rfl)⟩, ⟨⟨hla, fun w1 w2 h1 hw => (hw 0 rfl).trans h1, fun g hg => by cases hg; exact (Array.getElem?_eq_some_iff.1 hla).1⟩, (Nat.le_of_ble_eq_true rfl)⟩, trivial⟩) (vsOk (by kernel_rfl)) ?_
    have hl0 := Reads.len r0
    have hl1 := Reads.len r1
    refine WP_seq (WP_region (WPO_all tt_ok (by kernel_rfl) ?_))
    refine WP_seq (WP_region (WPO_run tt_ok 2 (by kernel_rfl) ?_))
    refine CALL 85 [.g [.ref 0, .int .i64 b.rule, .int .i64 b.most], .s (.ref 1)] (.t [(true, [.v (.slice none 0 0), .int .i64 0, .int .i64 0, .v (.map none)]), (false, [.int .i64 (checkD b)])]) [] (by kernel_rfl) (goes_of (by kernel_rfl)) (by kernel_rfl) (by kernel_rfl) (fun _ nV w h => asked_no_calls (nV 0) (nV 1) b on w (h.reads (id := 0) (kd := .ro) (e := 61) (by kernel_rfl)) (h.reads (id := 1) (kd := .ro) (e := 65) (by kernel_rfl)) (h.ents (2, .pf NobodyAt (· = 1)) (fnd_mem (by kernel_rfl))).1 hq) ?_
    refine WPO_all tt_ok (by kernel_rfl) ?_
    refine WP_seq (WP_seq (WP_region (WPO_all tt_ok (by kernel_rfl) ?_)))
    refine WP_cond ((checkD b) != 0) (by kernel_rfl) (fun hc1 => ?_) (fun h => by rw [(show ((checkD b) != 0) = true from by rw [bne, hq]; rfl)] at h; cases h)
    refine WP_seq (WP_region (WPO_all tt_ok (by kernel_rfl) ?_))
    refine WP_ret ?_
    exact ⟨.t [(true, [.int .i64 0, .int .i64 0]), (false, [.int .i64 (checkD b)])], by kernel_rfl, fun nV w' h => ⟨by rw [show listA b on = ((⟨0, 0⟩ : Span), checkD b) from by unfold listA; simp only [hq, hc1, cond_true, cond_false]]; rfl, h.bel⟩⟩
  · have hq1 : checkD b = 0 := by simpa using hq
    have hv := checkD_valid.1 hq1
    have hb5 := hv.n.2
    refine calls_of_WP (cx := cx0 w (vn [g0, g1]) 2) (n := vn [g0, g1]) (vs := [.g [.ref 0, .int .i64 b.rule, .int .i64 b.most], .s (.ref 1)]) (hp := [(0, .sl .ro 61 3 b.loads encLoad zLoad), (1, .sl .ro 65 2 on encPlace zPlace), (2, .pf NobodyAt (· = 1)), (3, .pf LanesAt (· = 0))]) (nx := 4) tt_ok Tryd.func30 rfl rfl rfl (by kernel_rfl) (HSat_args (vn_one (by simp [r0.one, r1.one])) (by decide) ⟨⟨⟨fun _ => rfl, by decide, r0⟩, (Nat.le_of_ble_eq_true rfl)⟩, ⟨⟨fun _ => rfl, by decide, r1⟩, (Nat.le_of_ble_eq_true rfl)⟩, ⟨⟨hnb, fun w1 w2 h1 hw => (hw 1 rfl).trans h1, fun g hg => by cases hg; exact (Array.getElem?_eq_some_iff.1 hnb).1⟩, (Nat.le_of_ble_eq_true rfl)⟩, ⟨⟨hla, fun w1 w2 h1 hw => (hw 0 rfl).trans h1, fun g hg => by cases hg; exact (Array.getElem?_eq_some_iff.1 hla).1⟩, (Nat.le_of_ble_eq_true rfl)⟩, trivial⟩) (vsOk (by kernel_rfl)) ?_
    have hl0 := Reads.len r0
    have hl1 := Reads.len r1
    refine WP_seq (WP_region (WPO_all tt_ok (by kernel_rfl) ?_))
    refine WP_seq (WP_region (WPO_run tt_ok 2 (by kernel_rfl) ?_))
    refine CALLMAP 85 [.g [.ref 0, .int .i64 b.rule, .int .i64 b.most], .s (.ref 1)] (plL b) plKey plVal (fun gM1 => .t [(true, [.ref 0, .int .i64 b.rule, .int .i64 b.most, .v (.map (some gM1))]), (false, [.int .i64 (askD b on)])]) (by kernel_rfl) (goes_of (by kernel_rfl)) (fun _ => (by kernel_rfl)) (fun _ => (by kernel_rfl)) (fun _ n n' h => by simp only [AV.c, cellsV, part1, AC.c, List.map_cons, List.map_nil, h 0 (by show 0 < 6; decide)]) (fun nV w h => asked_yes_calls (nV 0) (nV 1) b on w (h.reads (id := 0) (kd := .ro) (e := 61) (by kernel_rfl)) (h.reads (id := 1) (kd := .ro) (e := 65) (by kernel_rfl)) (h.ents (2, .pf NobodyAt (· = 1)) (fnd_mem (by kernel_rfl))).1 hq1) (fun gM1 => ?_)
    refine WPO_all tt_ok (by kernel_rfl) ?_
    refine WP_seq (WP_seq (WP_region (WPO_all tt_ok (by kernel_rfl) ?_)))
    refine WP_cond ((askD b on) != 0) (by kernel_rfl) (fun hc3 => ?_) (fun hc3 => ?_)
    · have hc3' := hc3; try simp only [Bool.and_eq_true, Bool.or_eq_true, Bool.and_eq_false_iff, Bool.or_eq_false_iff, Bool.not_eq_true', Bool.not_eq_false', decide_eq_true_eq, decide_eq_false_iff_not, beq_iff_eq, beq_eq_false_iff_ne, bne_iff_ne, bne_eq_false_iff_eq, ne_eq] at hc3'
      refine WP_seq (WP_region (WPO_all tt_ok (by kernel_rfl) ?_))
      refine WP_ret ?_
      exact ⟨.t [(true, [.int .i64 0, .int .i64 0]), (false, [.int .i64 (askD b on)])], by kernel_rfl, fun nV w' h => ⟨by rw [show listA b on = ((⟨0, 0⟩ : Span), askD b on) from by unfold listA; simp only [hq, hc3, cond_true, cond_false]]; rfl, h.bel⟩⟩
    have hc3' := hc3; try simp only [Bool.and_eq_true, Bool.or_eq_true, Bool.and_eq_false_iff, Bool.or_eq_false_iff, Bool.not_eq_true', Bool.not_eq_false', decide_eq_true_eq, decide_eq_false_iff_not, beq_iff_eq, beq_eq_false_iff_ne, bne_iff_ne, bne_eq_false_iff_eq, ne_eq] at hc3'
    refine WP_skip ?_
    have hon : PlacesD b on := places_of (askD_ok hb5 (askD_ne (by assumption)))
    refine WP_seq (WP_region (WPO_run tt_ok 2 (by kernel_rfl) ?_))
    refine CALL 86 [.g [.ref 0, .int .i64 b.rule, .int .i64 b.most, .v (.map (some gM1))], .s (.ref 1)] (.g [.int .i64 (lastD b on).lo, .int .i64 (lastD b on).hi]) [] (by kernel_rfl) (goes_of (by kernel_rfl)) (by kernel_rfl) (by kernel_rfl) (fun _ nV w h => lastD_calls (nV 0) (nV 1) gM1 b on w (h.reads (id := 0) (kd := .ro) (e := 61) (by kernel_rfl)) (h.reads (id := 1) (kd := .ro) (e := 65) (by kernel_rfl)) (h.ents (6, mapE gM1 (plL b) plKey plVal) (fnd_mem (by kernel_rfl))).1 (h.ents (3, .pf LanesAt (· = 0)) (fnd_mem (by kernel_rfl))).1 (by first | assumption | omega)) ?_
    refine WPO_all tt_ok (by kernel_rfl) ?_
    refine WP_ret ?_
    exact ⟨.t [(true, [.int .i64 (lastD b on).lo, .int .i64 (lastD b on).hi]), (false, [.int .i64 0])], by kernel_rfl, fun nV w' h => ⟨by rw [show listA b on = ((lastD b on), 0) from by unfold listA; simp only [hq, hc3, cond_true, cond_false]]; rfl, h.bel⟩⟩
def levelA (b : DBook) (on : List Place) : Int × Int :=
  (bif checkD b == 0 then (bif (askD b on) != 0 then (0, askD b on) else ((levelD b (lastD b on)), 0)) else (bif (checkD b) != 0 then (0, checkD b) else (0, checkD b)))
theorem levelA_calls (g0 g1 : Value) (b : DBook) (on : List Place) (w : World) (r0 : Reads w g0 3 b.loads encLoad zLoad) (r1 : Reads w g1 2 on encPlace zPlace) (hnb : NobodyAt w) (hla : LanesAt w) : Calls Tryd.prog 31 #[.agg #[g0, iv b.rule, iv b.most], g1] w fun e w' => e = .returned (.tuple #[iv (levelA b on).1, iv (levelA b on).2]) ∧ Below w.heap.size w w' := by
  cases hq : (checkD b == 0)
  · refine calls_of_WP (cx := cx0 w (vn [g0, g1]) 2) (n := vn [g0, g1]) (vs := [.g [.ref 0, .int .i64 b.rule, .int .i64 b.most], .s (.ref 1)]) (hp := [(0, .sl .ro 61 3 b.loads encLoad zLoad), (1, .sl .ro 65 2 on encPlace zPlace), (2, .pf NobodyAt (· = 1)), (3, .pf LanesAt (· = 0))]) (nx := 4) tt_ok Tryd.func31 rfl rfl rfl (by kernel_rfl) (HSat_args (vn_one (by simp [r0.one, r1.one])) (by decide) ⟨⟨⟨fun _ => rfl, by decide, r0⟩, (Nat.le_of_ble_eq_true rfl)⟩, ⟨⟨fun _ => rfl, by decide, r1⟩, (Nat.le_of_ble_eq_true rfl)⟩, ⟨⟨hnb, fun w1 w2 h1 hw => (hw 1 rfl).trans h1, fun g hg => by cases hg; exact (Array.getElem?_eq_some_iff.1 hnb).1⟩, (Nat.le_of_ble_eq_true rfl)⟩, ⟨⟨hla, fun w1 w2 h1 hw => (hw 0 rfl).trans h1, fun g hg => by cases hg; exact (Array.getElem?_eq_some_iff.1 hla).1⟩, (Nat.le_of_ble_eq_true rfl)⟩, trivial⟩) (vsOk (by kernel_rfl)) ?_
    have hl0 := Reads.len r0
    have hl1 := Reads.len r1
    refine WP_seq (WP_region (WPO_all tt_ok (by kernel_rfl) ?_))
    refine WP_seq (WP_region (WPO_run tt_ok 2 (by kernel_rfl) ?_))
    refine CALL 85 [.g [.ref 0, .int .i64 b.rule, .int .i64 b.most], .s (.ref 1)] (.t [(true, [.v (.slice none 0 0), .int .i64 0, .int .i64 0, .v (.map none)]), (false, [.int .i64 (checkD b)])]) [] (by kernel_rfl) (goes_of (by kernel_rfl)) (by kernel_rfl) (by kernel_rfl) (fun _ nV w h => asked_no_calls (nV 0) (nV 1) b on w (h.reads (id := 0) (kd := .ro) (e := 61) (by kernel_rfl)) (h.reads (id := 1) (kd := .ro) (e := 65) (by kernel_rfl)) (h.ents (2, .pf NobodyAt (· = 1)) (fnd_mem (by kernel_rfl))).1 hq) ?_
    refine WPO_all tt_ok (by kernel_rfl) ?_
    refine WP_seq (WP_seq (WP_region (WPO_all tt_ok (by kernel_rfl) ?_)))
    refine WP_cond ((checkD b) != 0) (by kernel_rfl) (fun hc1 => ?_) (fun h => by rw [(show ((checkD b) != 0) = true from by rw [bne, hq]; rfl)] at h; cases h)
    refine WP_seq (WP_region (WPO_all tt_ok (by kernel_rfl) ?_))
    refine WP_ret ?_
    exact ⟨.t [(false, [.int .i64 0]), (false, [.int .i64 (checkD b)])], by kernel_rfl, fun nV w' h => ⟨by rw [show levelA b on = (0, checkD b) from by unfold levelA; simp only [hq, hc1, cond_true, cond_false]]; rfl, h.bel⟩⟩
  · have hq1 : checkD b = 0 := by simpa using hq
    have hv := checkD_valid.1 hq1
    have hb5 := hv.n.2
    refine calls_of_WP (cx := cx0 w (vn [g0, g1]) 2) (n := vn [g0, g1]) (vs := [.g [.ref 0, .int .i64 b.rule, .int .i64 b.most], .s (.ref 1)]) (hp := [(0, .sl .ro 61 3 b.loads encLoad zLoad), (1, .sl .ro 65 2 on encPlace zPlace), (2, .pf NobodyAt (· = 1)), (3, .pf LanesAt (· = 0))]) (nx := 4) tt_ok Tryd.func31 rfl rfl rfl (by kernel_rfl) (HSat_args (vn_one (by simp [r0.one, r1.one])) (by decide) ⟨⟨⟨fun _ => rfl, by decide, r0⟩, (Nat.le_of_ble_eq_true rfl)⟩, ⟨⟨fun _ => rfl, by decide, r1⟩, (Nat.le_of_ble_eq_true rfl)⟩, ⟨⟨hnb, fun w1 w2 h1 hw => (hw 1 rfl).trans h1, fun g hg => by cases hg; exact (Array.getElem?_eq_some_iff.1 hnb).1⟩, (Nat.le_of_ble_eq_true rfl)⟩, ⟨⟨hla, fun w1 w2 h1 hw => (hw 0 rfl).trans h1, fun g hg => by cases hg; exact (Array.getElem?_eq_some_iff.1 hla).1⟩, (Nat.le_of_ble_eq_true rfl)⟩, trivial⟩) (vsOk (by kernel_rfl)) ?_
    have hl0 := Reads.len r0
    have hl1 := Reads.len r1
    refine WP_seq (WP_region (WPO_all tt_ok (by kernel_rfl) ?_))
    refine WP_seq (WP_region (WPO_run tt_ok 2 (by kernel_rfl) ?_))
    refine CALLMAP 85 [.g [.ref 0, .int .i64 b.rule, .int .i64 b.most], .s (.ref 1)] (plL b) plKey plVal (fun gM1 => .t [(true, [.ref 0, .int .i64 b.rule, .int .i64 b.most, .v (.map (some gM1))]), (false, [.int .i64 (askD b on)])]) (by kernel_rfl) (goes_of (by kernel_rfl)) (fun _ => (by kernel_rfl)) (fun _ => (by kernel_rfl)) (fun _ n n' h => by simp only [AV.c, cellsV, part1, AC.c, List.map_cons, List.map_nil, h 0 (by show 0 < 5; decide)]) (fun nV w h => asked_yes_calls (nV 0) (nV 1) b on w (h.reads (id := 0) (kd := .ro) (e := 61) (by kernel_rfl)) (h.reads (id := 1) (kd := .ro) (e := 65) (by kernel_rfl)) (h.ents (2, .pf NobodyAt (· = 1)) (fnd_mem (by kernel_rfl))).1 hq1) (fun gM1 => ?_)
    refine WPO_all tt_ok (by kernel_rfl) ?_
    refine WP_seq (WP_seq (WP_region (WPO_all tt_ok (by kernel_rfl) ?_)))
    refine WP_cond ((askD b on) != 0) (by kernel_rfl) (fun hc3 => ?_) (fun hc3 => ?_)
    · have hc3' := hc3; try simp only [Bool.and_eq_true, Bool.or_eq_true, Bool.and_eq_false_iff, Bool.or_eq_false_iff, Bool.not_eq_true', Bool.not_eq_false', decide_eq_true_eq, decide_eq_false_iff_not, beq_iff_eq, beq_eq_false_iff_ne, bne_iff_ne, bne_eq_false_iff_eq, ne_eq] at hc3'
      refine WP_seq (WP_region (WPO_all tt_ok (by kernel_rfl) ?_))
      refine WP_ret ?_
      exact ⟨.t [(false, [.int .i64 0]), (false, [.int .i64 (askD b on)])], by kernel_rfl, fun nV w' h => ⟨by rw [show levelA b on = (0, askD b on) from by unfold levelA; simp only [hq, hc3, cond_true, cond_false]]; rfl, h.bel⟩⟩
    have hc3' := hc3; try simp only [Bool.and_eq_true, Bool.or_eq_true, Bool.and_eq_false_iff, Bool.or_eq_false_iff, Bool.not_eq_true', Bool.not_eq_false', decide_eq_true_eq, decide_eq_false_iff_not, beq_iff_eq, beq_eq_false_iff_ne, bne_iff_ne, bne_eq_false_iff_eq, ne_eq] at hc3'
    refine WP_skip ?_
    have hon : PlacesD b on := places_of (askD_ok hb5 (askD_ne (by assumption)))
    refine WP_seq (WP_draw (by kernel_rfl) (by kernel_rfl) ?_)
    refine WPQ_run tt_ok 3 (by kernel_rfl) ?_
    refine QCALL 86 [.g [.ref 0, .int .i64 b.rule, .int .i64 b.most, .v (.map (some gM1))], .s (.ref 1)] (.g [.int .i64 (lastD b on).lo, .int .i64 (lastD b on).hi]) [] (by kernel_rfl) (goes_of (by kernel_rfl)) (by kernel_rfl) (by kernel_rfl) (fun _ nV w h => lastD_calls (nV 0) (nV 1) gM1 b on w (h.reads (id := 0) (kd := .ro) (e := 61) (by kernel_rfl)) (h.reads (id := 1) (kd := .ro) (e := 65) (by kernel_rfl)) (h.ents (5, mapE gM1 (plL b) plKey plVal) (fnd_mem (by kernel_rfl))).1 (h.ents (3, .pf LanesAt (· = 0)) (fnd_mem (by kernel_rfl))).1 (by first | assumption | omega)) ?_
    refine QCALL 87 [.g [.ref 0, .int .i64 b.rule, .int .i64 b.most, .v (.map (some gM1))], .g [.int .i64 (lastD b on).lo, .int .i64 (lastD b on).hi]] (.s (.int .i64 (levelD b (lastD b on)))) [] (by kernel_rfl) (goes_of (by kernel_rfl)) (by kernel_rfl) (by kernel_rfl) (fun _ nV w h => levelD_calls (nV 0) gM1 b (lastD b on) w (h.reads (id := 0) (kd := .ro) (e := 61) (by kernel_rfl)) (h.ents (5, mapE gM1 (plL b) plKey plVal) (fnd_mem (by kernel_rfl))).1 ) ?_
    refine WPQ_all tt_ok (by kernel_rfl) ?_
    refine WP_ret ?_
    exact ⟨.t [(false, [.int .i64 (levelD b (lastD b on))]), (false, [.int .i64 0])], by kernel_rfl, fun nV w' h => ⟨by rw [show levelA b on = ((levelD b (lastD b on)), 0) from by unfold levelA; simp only [hq, hc3, cond_true, cond_false]]; rfl, h.bel⟩⟩
end Go.Proofs.YthfnedbpmdkdjaaDoor.D
namespace Go.Proofs.YthfnedbpmdkdjaaDoor.D
open Go Go.RowKit Go.Proofs.YthfnedbpmdkdjaaDoor.Eng Go.Proofs.YthfnedbpmdkdjaaDoor.Cm
set_option linter.unusedVariables false
set_option linter.unusedSimpArgs false
set_option linter.unusedSectionVars false
def okT (b : DBook) (l : List (Int × Span)) : Prop := ∀ x ∈ l, decide (levelD b x.2 < 2) = false
def stopT (b : DBook) (l : List (Int × Span)) : Prop := ∃ q y, l = q ++ [y] ∧ okT b q ∧ decide (levelD b y.2 < 2) = true
def lastP (l : List (Int × Span)) : Int := (l.getLast?.map (·.1)).getD 0
theorem lastP_snoc (l : List (Int × Span)) (x : Int × Span) : lastP (l ++ [x]) = x.1 := by simp [lastP]
theorem okT_snoc {b : DBook} {l : List (Int × Span)} {x : Int × Span} (h : okT b l) (hx : decide (levelD b x.2 < 2) = false) : okT b (l ++ [x]) := fun y hy => by
  rcases List.mem_append.1 hy with hy | hy
  · exact h y hy
  · rw [List.mem_singleton.1 hy]; exact hx
def tiltQ (b : DBook) (on : List Place) : Option (Int × Span) := (listsD b on).find? fun x => decide (levelD b x.2 < 2)
theorem tilt_none {b : DBook} {on : List Place} (h : okT b (listsD b on)) : tiltQ b on = none := List.find?_eq_none.2 fun x hx => by rw [h x hx]; decide
theorem tilt_stop {b : DBook} {on : List Place} {l : List (Int × Span)} (h : stopT b l) (hl : l <+: listsD b on) : ∃ y, tiltQ b on = some y ∧ lastP l = y.1 := by
  obtain ⟨q, y, rfl, h1, h2⟩ := h
  obtain ⟨r, hr⟩ := hl
  refine ⟨y, ?_, lastP_snoc _ _⟩
  unfold tiltQ
  rw [← hr, List.append_assoc, List.find?_append, List.find?_eq_none.2 (fun x hx => by rw [h1 x hx]; decide)]
  rw [Option.none_or, List.singleton_append]
  simp only [List.find?, h2]
theorem lists_ok9 {cx : Cx} {s s1 : AS} {L : List (Nat × HE)} {b : DBook} {gm : Nat} (h1 : s.hp = L) (h2 : s.nx = 9)
    (h3 : s1.hp = (11, .clo 117 [] [.s (.p 10 0), .s (.p 9 0)]) :: (10, .box 25 [.ref 1]) :: (9, .box 94 [.ref 0, .int .i64 b.rule, .int .i64 b.most, .v (.map (some gm))]) :: L) (h4 : s1.nx = 12) :
    CallOk Tryd.prog cx s 88 [.g [.ref 0, .int .i64 b.rule, .int .i64 b.most, .v (.map (some gm))], .s (.ref 1)] (.s (.ref 11)) s1 := by
  intro n w hh
  have hh2 : HSat ⟨cx.w0, cx.ok, n, 9, true⟩ n ⟨6, env0 0 [.g [.ref 0, .int .i64 b.rule, .int .i64 b.most, .v (.map (some gm))], .s (.ref 1)], L, 9, []⟩ w :=
    (HSat.top (b := true) hh).of_same (s2 := ⟨6, env0 0 [.g [.ref 0, .int .i64 b.rule, .int .i64 b.most, .v (.map (some gm))], .s (.ref 1)], L, 9, []⟩) h1.symm h2.symm |> fun h => by rw [h2] at h; exact h
  refine calls_of_WP (cx := ⟨cx.w0, cx.ok, n, 9, true⟩) (n := n) (vs := [.g [.ref 0, .int .i64 b.rule, .int .i64 b.most, .v (.map (some gm))], .s (.ref 1)]) (hp := L) (nx := 9) tt_ok Tryd.func88 rfl rfl rfl (by kernel_rfl) hh2 (vsOk (by kernel_rfl)) ?_
  refine WP_seq (WP_region (WPO_all tt_ok (by kernel_rfl) ?_))
  refine WP_seq (WP_region (WPO_all tt_ok (by kernel_rfl) ?_))
  refine WP_ret ?_
  exact ⟨.s (.ref 11), by kernel_rfl, fun n1 w' h => ⟨n1, fun id hid => h.ini id (by rw [← h2]; exact hid), rfl, ((h.of_same (s2 := s1) (by rw [h3]; kernel_rfl) (by rw [h4]; kernel_rfl)).back (fun id hid => hh.ini id hid) (by have := hh.inx; rw [h2] at this; exact this))⟩⟩
theorem listsT_iter (b : DBook) (on : List Place) (gm : Nat) (hon : PlacesD b on) (hn : on.length ≤ 9223372036854775807) : IterOk Tryd.prog 117 [.s (.p 10 0), .s (.p 9 0)] [(10, .box 25 [.ref 1]), (9, .box 94 [.ref 0, .int .i64 b.rule, .int .i64 b.most, .v (.map (some gm))])] [(0, .sl .ro 61 3 b.loads encLoad zLoad), (1, .sl .ro 65 2 on encPlace zPlace), (2, .pf NobodyAt (· = 1)), (3, .pf LanesAt (· = 0))] 13 encY (listsD b on) := by
  intro cx n w L RF GR J Jx G0 hJ hJx hY hh
  have e : (#[.func (.yield L) #[] #[]] ++ (([.s (.p 10 0), .s (.p 9 0)] : List AV).map (AV.c n)).toArray : Array Value) = (([.s (.v (.func (.yield L) #[] #[])), .s (.p 10 0), .s (.p 9 0)] : List AV).map (AV.c n)).toArray := by simp [AV.c, AC.c]
  rw [e]
  refine calls_of_WP (cx := ⟨cx.w0, cx.ok, n, 15, true⟩) (n := n) (vs := [.s (.v (.func (.yield L) #[] #[])), .s (.p 10 0), .s (.p 9 0)]) (hp := [(13, .jf (J ([]) G0) G0), (14, .pf RF GR), (10, .box 25 [.ref 1]), (9, .box 94 [.ref 0, .int .i64 b.rule, .int .i64 b.most, .v (.map (some gm))]), (0, .sl .ro 61 3 b.loads encLoad zLoad), (1, .sl .ro 65 2 on encPlace zPlace), (2, .pf NobodyAt (· = 1)), (3, .pf LanesAt (· = 0))]) (nx := 15) tt_ok Tryd.func117 rfl rfl rfl (by kernel_rfl) (hh.top.slots) (vsOk (by kernel_rfl)) ?_
  refine WP_seq (WP_region (WPO_all tt_ok (by kernel_rfl) ?_))
  refine WP_seq (WP_region (WPO_all tt_ok (by kernel_rfl) ?_))
  refine WP_block (WP_loop (σ := Int × Int × Int × List (Int × Span) × (Nat → Prop)) (fun zz => ⟨35, [(10, [], .s (.int .i64 zz.1)), (9, [], .s (.int .i64 (on.length : Int))), (8, [], .s (.ref 1)), (4, [], .s (.p 15 0)), (0, [], .s (.v (.func (.yield L) #[] #[]))), (2, [], .s (.p 9 0))], [(15, .box 97 [.int .i64 zz.2.1, .int .i64 zz.2.2.1]), (13, .jf (J zz.2.2.2.1 zz.2.2.2.2) zz.2.2.2.2), (14, .pf RF GR), (10, .box 25 [.ref 1]), (9, .box 94 [.ref 0, .int .i64 b.rule, .int .i64 b.most, .v (.map (some gm))]), (0, .sl .ro 61 3 b.loads encLoad zLoad), (1, .sl .ro 65 2 on encPlace zPlace), (2, .pf NobodyAt (· = 1)), (3, .pf LanesAt (· = 0))], 16, []⟩) (fun zz => ∃ k : Nat, k ≤ on.length ∧ zz.1 = k ∧ zz.2.1 = (accD b on k).lo ∧ zz.2.2.1 = (accD b on k).hi ∧ zz.2.2.2.1 = preD b on k) (fun zz => on.length - zz.1.toNat) (0, 0, 0, [], G0) (⟨0, by omega, rfl, rfl, rfl, rfl⟩) (Le_sel (ts := [10, 9, 8, 4, 0, 2]) (ids := [15, 13, 14, 10, 9, 0, 1, 2, 3]) (nx := 16) (by kernel_rfl)) ?_)
  rintro ⟨ii, lo, hi, pre, G⟩ hinv
  obtain ⟨k, hk0, hii, hlo, hhi, hpre⟩ := hinv
  simp only at hii hlo hhi hpre
  subst hii
  subst hlo
  subst hhi
  subst hpre
  refine WP_seq (WP_region (WPO_all tt_ok (by kernel_rfl) ?_))
  refine WP_seq (WP_cond (decide ((k : Int) < (on.length : Int))) (by kernel_rfl) (fun hc1 => ?_) (fun hc1 => ?_))
  · have hc1 := of_decide_eq_true hc1
    have hk : k < on.length := by omega
    obtain ⟨hx1, hx2⟩ := hon (on.getD k zPlace) (getD_mem hk)
    refine WP_skip ?_
    refine WP_seq (WP_block ?_)
    refine WP_seq (WP_region (WPO_run tt_ok 1 (by kernel_rfl) ?_))
    refine IX tt_ok (k : Int) on.length [] (by kernel_rfl) (fun hG => ⟨by omega, by omega⟩) ?_
    refine WPO_all tt_ok (by kernel_rfl) ?_
    refine WP_seq (WP_drawHM 14 [] [15] (by kernel_rfl) (by kernel_rfl) ?_)
    refine H_run tt_ok [0, 1] (f' := 12) (by kernel_rfl) (by kernel_rfl) (by kernel_rfl) ?_
    refine H_GIX tt_ok 2 (on.getD k zPlace).lane 3 [] (by kernel_rfl) (fun hG => hx2) (by kernel_rfl) (by kernel_rfl) ?_
    refine H_LDG tt_ok 3 126 0 (0 + (on.getD k zPlace).lane.toNat * 1) (some 18) [.v (.func (.func 147) #[] #[]), .v (.func (.func 145) #[] #[]), .v (.func (.func 148) #[] #[])] 127 (.s (.v (.func (.func (laneK (on.getD k zPlace).lane)) #[] #[]))) (by kernel_rfl) (lane_sub hx2) (by kernel_rfl) (fun _ nV w h => (h.ents (3, .pf LanesAt (· = 0)) (fnd_mem (by kernel_rfl))).1) (by kernel_rfl) (by kernel_rfl) (by kernel_rfl) ?_
    refine H_run tt_ok [4, 5, 6, 7, 8, 9] (f' := 4) (by kernel_rfl) (by kernel_rfl) (by kernel_rfl) ?_
    refine H_IX tt_ok 10 (on.getD k zPlace).load b.loads.length [] (by kernel_rfl) (fun hG => hx1) (by kernel_rfl) (by kernel_rfl) ?_
    refine H_step 11 (by kernel_rfl) (by kernel_rfl) (fun hfz cx' hx1 hx2 => ?_)
    refine WPO_all tt_ok (by kernel_rfl) ?_
    refine ⟨rfl, (hfz.fnds [16, 15, 13, 14, 10, 9, 0, 1, 2, 3] (by kernel_rfl) ⟨by kernel_rfl, by kernel_rfl, by kernel_rfl, by kernel_rfl, by kernel_rfl, by kernel_rfl, by kernel_rfl, by kernel_rfl, by kernel_rfl, by kernel_rfl, trivial⟩ (by kernel_rfl)), ?_⟩
    refine H_run tt_ok [12] (f' := 1) (by kernel_rfl) (by kernel_rfl) (by kernel_rfl) ?_
    refine H_step 13 (by kernel_rfl) (by kernel_rfl) (fun hfz cx' hx1 hx2 => ?_)
    refine CALL (laneK (on.getD k zPlace).lane) [.g [.int .i64 (accD b on k).lo, .int .i64 (accD b on k).hi], .g [.int .i64 (b.loads.getD (on.getD k zPlace).load.toNat zLoad).w.lo, .int .i64 (b.loads.getD (on.getD k zPlace).load.toNat zLoad).w.hi]] (.g [.int .i64 (laneF (on.getD k zPlace).lane (accD b on k) (b.loads.getD (on.getD k zPlace).load.toNat zLoad).w).lo, .int .i64 (laneF (on.getD k zPlace).lane (accD b on k) (b.loads.getD (on.getD k zPlace).load.toNat zLoad).w).hi]) [] (by kernel_rfl) (lane_goes (on.getD k zPlace).lane) (by kernel_rfl) (by kernel_rfl) (fun _ nV w h => lane_calls (on.getD k zPlace).lane (accD b on k) (b.loads.getD (on.getD k zPlace).load.toNat zLoad).w w) ?_
    refine WPO_end (by kernel_rfl) ⟨rfl, (hfz.fnds [16, 15, 13, 14, 10, 9, 0, 1, 2, 3] (by kernel_rfl) ⟨by kernel_rfl, by kernel_rfl, by kernel_rfl, by kernel_rfl, by kernel_rfl, by kernel_rfl, by kernel_rfl, by kernel_rfl, by kernel_rfl, by kernel_rfl, trivial⟩ (by kernel_rfl)), ?_⟩
    refine H_done (by kernel_rfl) ?_
    refine ⟨(by kernel_rfl), ?_⟩
    refine H_step 14 (by kernel_rfl) (by kernel_rfl) (fun hfz cx' hx1 hx2 => ?_)
    refine WPO_all tt_ok (by kernel_rfl) ?_
    refine ⟨rfl, (hfz.fnds [16, 13, 14, 10, 9, 0, 1, 2, 3] (by kernel_rfl) ⟨by kernel_rfl, by kernel_rfl, by kernel_rfl, by kernel_rfl, by kernel_rfl, by kernel_rfl, by kernel_rfl, by kernel_rfl, by kernel_rfl, trivial⟩ (by kernel_rfl)), ?_⟩
    refine H_done (by kernel_rfl) ?_
    refine WP_seq (WP_yield tt_ok 3 (preD b on k) (itD b on k) L 13 14 [.s (.int .i64 (k : Int)), .g [.int .i64 (laneF (on.getD k zPlace).lane (accD b on k) (b.loads.getD (on.getD k zPlace).load.toNat zLoad).w).lo, .int .i64 (laneF (on.getD k zPlace).lane (accD b on k) (b.loads.getD (on.getD k zPlace).load.toNat zLoad).w).hi]] (some 32) G GR encY (listsD b on) RF J Jx (by kernel_rfl) (by kernel_rfl) (by kernel_rfl) (by kernel_rfl) hJ hJx hY (by (rw [← preD_succ]; exact preD_prefix (by omega))) (fun n => by (unfold itD; rw [accD_succ hk]; rfl)) (fun F' G' b => by kernel_rfl) (fun G' => ?_) (fun G' => ?_))
    · refine WP_cond (!true) (by kernel_rfl) (fun h => by cases h) (fun hc2 => ?_)
      refine WP_skip ?_
      refine WP_region (WPO_all tt_ok (by kernel_rfl) ?_)
      refine ⟨(IntKind.i64.wrap ((k : Int) + 1), (laneF (on.getD k zPlace).lane (accD b on k) (b.loads.getD (on.getD k zPlace).load.toNat zLoad).w).lo, (laneF (on.getD k zPlace).lane (accD b on k) (b.loads.getD (on.getD k zPlace).load.toNat zLoad).w).hi, preD b on k ++ [(itD b on k)], G'), ?_, ?_, Le_sel (ts := [10, 9, 8, 4, 0, 2]) (ids := [15, 13, 14, 10, 9, 0, 1, 2, 3]) (nx := 16) (by kernel_rfl)⟩
      · refine ⟨k + 1, by omega, by simp only; rw [wrapI (by omega) (by omega)]; rfl, ?_, ?_, by simp only; rw [preD_succ]⟩
        · rw [accD_succ hk]; rfl
        · rw [accD_succ hk]; rfl
      · simp only
        rw [wrapI (by omega) (by omega)]
        omega
    refine WP_cond (!false) (by kernel_rfl) (fun hc3 => ?_) (fun h => by cases h)
    refine WP_ret ?_
    exact ⟨.t [], by kernel_rfl, fun n1 w' h => ⟨⟨_, rfl⟩, n1, G', preD b on k ++ [(itD b on k)], fun id hid => h.ini id hid, .inr ⟨(by rw [← preD_succ]; exact preD_prefix (by omega)), (h.back hh.ini hh.inx).two (by kernel_rfl) (by kernel_rfl) rfl 15 hh.inx (by omega) (by omega)⟩⟩⟩
  have hc1 := of_decide_eq_false hc1
  refine WP_exit ?_
  have hkn : k = on.length := by omega
  exact ⟨.t [], by kernel_rfl, fun n1 w' h => ⟨⟨_, rfl⟩, n1, G, preD b on k, fun id hid => h.ini id hid, .inl ⟨by unfold listsD; rw [hkn], (h.back hh.ini hh.inx).two (by kernel_rfl) (by kernel_rfl) rfl 15 hh.inx (by omega) (by omega)⟩⟩⟩
def tiltsA (b : DBook) (on : List Place) : Int × Int := bif checkD b == 0 then (bif (askD b on) != 0 then (0, askD b on) else (match tiltQ b on with | some y => (y.1, 0) | none => (0, 4))) else (0, checkD b)
theorem tiltsA_calls (g0 g1 : Value) (b : DBook) (on : List Place) (w : World) (r0 : Reads w g0 3 b.loads encLoad zLoad) (r1 : Reads w g1 2 on encPlace zPlace) (hnb : NobodyAt w) (hla : LanesAt w) : Calls Tryd.prog 32 #[.agg #[g0, iv b.rule, iv b.most], g1] w fun e w' => e = .returned (.tuple #[iv (tiltsA b on).1, iv (tiltsA b on).2]) ∧ Below w.heap.size w w' := by
  cases hq : (checkD b == 0)
  · refine calls_of_WPM (cx := cx0 w (vn [g0, g1]) 2) (n := vn [g0, g1]) (vs := [.g [.ref 0, .int .i64 b.rule, .int .i64 b.most], .s (.ref 1)]) (hp := [(0, .sl .ro 61 3 b.loads encLoad zLoad), (1, .sl .ro 65 2 on encPlace zPlace), (2, .pf NobodyAt (· = 1)), (3, .pf LanesAt (· = 0))]) (nx := 4) tt_ok Tryd.func32 rfl rfl rfl (by kernel_rfl) (HSat_args (vn_one (by simp [r0.one, r1.one])) (by decide) ⟨⟨⟨fun _ => rfl, by decide, r0⟩, (Nat.le_of_ble_eq_true rfl)⟩, ⟨⟨fun _ => rfl, by decide, r1⟩, (Nat.le_of_ble_eq_true rfl)⟩, ⟨⟨hnb, fun w1 w2 h1 hw => (hw 1 rfl).trans h1, fun g hg => by cases hg; exact (Array.getElem?_eq_some_iff.1 hnb).1⟩, (Nat.le_of_ble_eq_true rfl)⟩, ⟨⟨hla, fun w1 w2 h1 hw => (hw 0 rfl).trans h1, fun g hg => by cases hg; exact (Array.getElem?_eq_some_iff.1 hla).1⟩, (Nat.le_of_ble_eq_true rfl)⟩, trivial⟩) (vsOk (by kernel_rfl)) ?_
    have hl0 := Reads.len r0
    have hl1 := Reads.len r1
    refine WP_seq (WP_region (WPO_all tt_ok (by kernel_rfl) ?_))
    refine WP_seq (WP_region (WPO_run tt_ok 2 (by kernel_rfl) ?_))
    refine CALL 85 [.g [.ref 0, .int .i64 b.rule, .int .i64 b.most], .s (.ref 1)] (.t [(true, [.v (.slice none 0 0), .int .i64 0, .int .i64 0, .v (.map none)]), (false, [.int .i64 (checkD b)])]) [] (by kernel_rfl) (goes_of (by kernel_rfl)) (by kernel_rfl) (by kernel_rfl) (fun _ nV w h => asked_no_calls (nV 0) (nV 1) b on w (h.reads (id := 0) (kd := .ro) (e := 61) (by kernel_rfl)) (h.reads (id := 1) (kd := .ro) (e := 65) (by kernel_rfl)) (h.ents (2, .pf NobodyAt (· = 1)) (fnd_mem (by kernel_rfl))).1 hq) ?_
    refine WPO_all tt_ok (by kernel_rfl) ?_
    refine WP_seq (WP_seq (WP_region (WPO_all tt_ok (by kernel_rfl) ?_)))
    refine WP_cond ((checkD b) != 0) (by kernel_rfl) (fun hc1 => ?_) (fun h => by rw [(show ((checkD b) != 0) = true from by rw [bne, hq]; rfl)] at h; cases h)
    refine WP_seq (WP_region (WPO_all tt_ok (by kernel_rfl) ?_))
    refine WP_ret ?_
    exact .inl ⟨.t [(false, [.int .i64 0]), (false, [.int .i64 (checkD b)])], by kernel_rfl, fun nV w' h => ⟨by rw [show tiltsA b on = (0, checkD b) from by unfold tiltsA; simp only [hq, hc1, cond_true, cond_false]]; rfl, h.bel⟩⟩
  · have hq1 : checkD b = 0 := by simpa using hq
    have hv := checkD_valid.1 hq1
    have hb5 := hv.n.2
    refine calls_of_WPM (cx := cx0 w (vn [g0, g1]) 2) (n := vn [g0, g1]) (vs := [.g [.ref 0, .int .i64 b.rule, .int .i64 b.most], .s (.ref 1)]) (hp := [(0, .sl .ro 61 3 b.loads encLoad zLoad), (1, .sl .ro 65 2 on encPlace zPlace), (2, .pf NobodyAt (· = 1)), (3, .pf LanesAt (· = 0))]) (nx := 4) tt_ok Tryd.func32 rfl rfl rfl (by kernel_rfl) (HSat_args (vn_one (by simp [r0.one, r1.one])) (by decide) ⟨⟨⟨fun _ => rfl, by decide, r0⟩, (Nat.le_of_ble_eq_true rfl)⟩, ⟨⟨fun _ => rfl, by decide, r1⟩, (Nat.le_of_ble_eq_true rfl)⟩, ⟨⟨hnb, fun w1 w2 h1 hw => (hw 1 rfl).trans h1, fun g hg => by cases hg; exact (Array.getElem?_eq_some_iff.1 hnb).1⟩, (Nat.le_of_ble_eq_true rfl)⟩, ⟨⟨hla, fun w1 w2 h1 hw => (hw 0 rfl).trans h1, fun g hg => by cases hg; exact (Array.getElem?_eq_some_iff.1 hla).1⟩, (Nat.le_of_ble_eq_true rfl)⟩, trivial⟩) (vsOk (by kernel_rfl)) ?_
    have hl0 := Reads.len r0
    have hl1 := Reads.len r1
    refine WP_seq (WP_region (WPO_all tt_ok (by kernel_rfl) ?_))
    refine WP_seq (WP_region (WPO_run tt_ok 2 (by kernel_rfl) ?_))
    refine CALLMAP 85 [.g [.ref 0, .int .i64 b.rule, .int .i64 b.most], .s (.ref 1)] (plL b) plKey plVal (fun gM1 => .t [(true, [.ref 0, .int .i64 b.rule, .int .i64 b.most, .v (.map (some gM1))]), (false, [.int .i64 (askD b on)])]) (by kernel_rfl) (goes_of (by kernel_rfl)) (fun _ => (by kernel_rfl)) (fun _ => (by kernel_rfl)) (fun _ n n' h => by simp only [AV.c, cellsV, part1, AC.c, List.map_cons, List.map_nil, h 0 (by show 0 < 7; decide)]) (fun nV w h => asked_yes_calls (nV 0) (nV 1) b on w (h.reads (id := 0) (kd := .ro) (e := 61) (by kernel_rfl)) (h.reads (id := 1) (kd := .ro) (e := 65) (by kernel_rfl)) (h.ents (2, .pf NobodyAt (· = 1)) (fnd_mem (by kernel_rfl))).1 hq1) (fun gM1 => ?_)
    refine WPO_all tt_ok (by kernel_rfl) ?_
    refine WP_seq (WP_seq (WP_region (WPO_all tt_ok (by kernel_rfl) ?_)))
    refine WP_cond ((askD b on) != 0) (by kernel_rfl) (fun hc3 => ?_) (fun hc3 => ?_)
    · have hc3' := hc3; try simp only [Bool.and_eq_true, Bool.or_eq_true, Bool.and_eq_false_iff, Bool.or_eq_false_iff, Bool.not_eq_true', Bool.not_eq_false', decide_eq_true_eq, decide_eq_false_iff_not, beq_iff_eq, beq_eq_false_iff_ne, bne_iff_ne, bne_eq_false_iff_eq, ne_eq] at hc3'
      refine WP_seq (WP_region (WPO_all tt_ok (by kernel_rfl) ?_))
      refine WP_ret ?_
      exact .inl ⟨.t [(false, [.int .i64 0]), (false, [.int .i64 (askD b on)])], by kernel_rfl, fun nV w' h => ⟨by rw [show tiltsA b on = (0, askD b on) from by unfold tiltsA; simp only [hq, hc3, cond_true, cond_false]]; rfl, h.bel⟩⟩
    have hc3' := hc3; try simp only [Bool.and_eq_true, Bool.or_eq_true, Bool.and_eq_false_iff, Bool.or_eq_false_iff, Bool.not_eq_true', Bool.not_eq_false', decide_eq_true_eq, decide_eq_false_iff_not, beq_iff_eq, beq_eq_false_iff_ne, bne_iff_ne, bne_eq_false_iff_eq, ne_eq] at hc3'
    refine WP_skip ?_
    have hon : PlacesD b on := places_of (askD_ok hb5 (askD_ne (by assumption)))
    refine WP_seq (WP_seq (WP_region (WPO_run tt_ok 2 (by kernel_rfl) ?_)))
    refine CALLN 88 [.g [.ref 0, .int .i64 b.rule, .int .i64 b.most, .v (.map (some gM1))], .s (.ref 1)] ⟨29, [(20, [], .s (.ref 1)), (19, [], .g [.ref 0, .int .i64 b.rule, .int .i64 b.most, .v (.map (some gM1))]), (17, [], .s (.bool ((askD b on) != 0))), (16, [], .s (.int .i64 (askD b on))), (7, [], .s (.int .i64 (askD b on))), (6, [], .s (.p 8 0)), (15, [], .s (.int .i64 (askD b on))), (14, [], .g [.ref 0, .int .i64 b.rule, .int .i64 b.most, .v (.map (some gM1))]), (10, [], .t [(true, [.ref 0, .int .i64 b.rule, .int .i64 b.most, .v (.map (some gM1))]), (false, [.int .i64 (askD b on)])]), (13, [], .t [(true, [.ref 0, .int .i64 b.rule, .int .i64 b.most, .v (.map (some gM1))]), (false, [.int .i64 (askD b on)])]), (12, [], .s (.ref 1)), (11, [], .g [.ref 0, .int .i64 b.rule, .int .i64 b.most]), (5, [], .s (.p 6 0)), (4, [], .s (.p 5 0)), (2, [], .s (.p 4 0)), (0, [], .g [.ref 0, .int .i64 b.rule, .int .i64 b.most]), (1, [], .s (.ref 1))], [(11, .clo 117 [] [.s (.p 10 0), .s (.p 9 0)]), (10, .box 25 [.ref 1]), (9, .box 94 [.ref 0, .int .i64 b.rule, .int .i64 b.most, .v (.map (some gM1))]), (8, .box 94 [.ref 0, .int .i64 b.rule, .int .i64 b.most, .v (.map (some gM1))]), (7, mapE gM1 (plL b) plKey plVal), (6, .box 44 [.int .i64 0]), (5, .box 3 [.int .i64 0]), (4, .box 24 [.ref 0, .int .i64 b.rule, .int .i64 b.most]), (0, .sl .ro 61 3 b.loads encLoad zLoad), (1, .sl .ro 65 2 on encPlace zPlace), (2, .pf NobodyAt (· = 1)), (3, .pf LanesAt (· = 0))], 12, []⟩ (.s (.ref 11)) (by kernel_rfl) (goes_of (by kernel_rfl)) (by kernel_rfl) (by kernel_rfl) (more_ext 3 (by kernel_rfl) (by kernel_rfl) (by kernel_rfl)) ⟨(by kernel_rfl), (by kernel_rfl), (by kernel_rfl)⟩ (lists_ok9 (L := [(8, .box 94 [.ref 0, .int .i64 b.rule, .int .i64 b.most, .v (.map (some gM1))]), (7, mapE gM1 (plL b) plKey plVal), (6, .box 44 [.int .i64 0]), (5, .box 3 [.int .i64 0]), (4, .box 24 [.ref 0, .int .i64 b.rule, .int .i64 b.most]), (0, .sl .ro 61 3 b.loads encLoad zLoad), (1, .sl .ro 65 2 on encPlace zPlace), (2, .pf NobodyAt (· = 1)), (3, .pf LanesAt (· = 0))]) (by kernel_rfl) (by kernel_rfl) (by kernel_rfl) (by kernel_rfl)) ?_
    refine WPO_nil ?_
    refine WP_block ?_
    refine WP_le (Le_addT (okT b ([])) (fun x hx => by cases hx)) ?_
    refine WP_le (s' := ⟨29, [(6, [], .s (.p 8 0)), (5, [], .s (.p 6 0)), (4, [], .s (.p 5 0)), (21, [], .s (.ref 11))], [(12, jT (okT b ([]))), (11, .clo 117 [] [.s (.p 10 0), .s (.p 9 0)]), (10, .box 25 [.ref 1]), (9, .box 94 [.ref 0, .int .i64 b.rule, .int .i64 b.most, .v (.map (some gM1))]), (8, .box 94 [.ref 0, .int .i64 b.rule, .int .i64 b.most, .v (.map (some gM1))]), (7, mapE gM1 (plL b) plKey plVal), (6, .box 44 [.int .i64 0]), (5, .box 3 [.int .i64 0]), (4, .box 24 [.ref 0, .int .i64 b.rule, .int .i64 b.most]), (0, .sl .ro 61 3 b.loads encLoad zLoad), (1, .sl .ro 65 2 on encPlace zPlace), (2, .pf NobodyAt (· = 1)), (3, .pf LanesAt (· = 0))], 13, []⟩) (Le_sel (ts := [6, 5, 4, 21]) (ids := [12, 11, 10, 9, 8, 7, 6, 5, 4, 0, 1, 2, 3]) (nx := 13) (by kernel_rfl)) ?_
    refine WP_range tt_ok rfl (listsD b on) encY (fun x : Int × Span => ([.s (ai x.1), .g [ai x.2.lo, ai x.2.hi]] : List AV)) [6, 5, 4] [(6, [], .s (.p 8 0)), (5, [], .s (.p 6 0)), (4, [], .s (.p 5 0))] 11 117 [.s (.p 10 0), .s (.p 9 0)] (fun pre => [(12, jT (okT b (pre))), (8, .box 94 [.ref 0, .int .i64 b.rule, .int .i64 b.most, .v (.map (some gM1))]), (7, mapE gM1 (plL b) plKey plVal), (6, .box 44 [.int .i64 0]), (5, .box 3 [.int .i64 0]), (4, .box 24 [.ref 0, .int .i64 b.rule, .int .i64 b.most])]) (fun c pre => match c with | .ret => some [(12, jT (stopT b (pre))), (8, .box 94 [.ref 0, .int .i64 b.rule, .int .i64 b.most, .v (.map (some gM1))]), (7, mapE gM1 (plL b) plKey plVal), (6, .box 44 [.int .i64 0]), (5, .box 3 [.int .i64 (lastP (pre))]), (4, .box 24 [.ref 0, .int .i64 b.rule, .int .i64 b.most])] | _ => none) [(10, .box 25 [.ref 1]), (9, .box 94 [.ref 0, .int .i64 b.rule, .int .i64 b.most, .v (.map (some gM1))])] [(0, .sl .ro 61 3 b.loads encLoad zLoad), (1, .sl .ro 65 2 on encPlace zPlace), (2, .pf NobodyAt (· = 1)), (3, .pf LanesAt (· = 0))] (by kernel_rfl) (by kernel_rfl) (goes_of (by kernel_rfl)) (by kernel_rfl) ⟨by kernel_rfl, by kernel_rfl, by kernel_rfl, by kernel_rfl, by kernel_rfl, by kernel_rfl, by kernel_rfl, by kernel_rfl, by kernel_rfl, by kernel_rfl, by kernel_rfl, by kernel_rfl, trivial⟩ (by kernel_rfl) (fun pre => (by kernel_rfl)) (fun c pre Mr h => by cases c <;> first | (cases h; kernel_rfl) | (cases h; done)) (by kernel_rfl) (fun x n => rfl) (fun x => rfl) (fun x v hv => by simp only [List.mem_cons, List.mem_nil_iff, or_false] at hv; rcases hv with rfl | rfl <;> rfl) (fun v hv => by simp at hv; rcases hv with rfl | rfl | rfl <;> kernel_rfl) (listsT_iter b on gM1 hon (by omega)) ?round ?done ?stop
    case round =>
      intro pre x hpre w0 ok n0 L D FL FB hn0
      refine ⟨⟨29, [(23, [], .g [.int .i64 x.2.lo, .int .i64 x.2.hi]), (22, [], .s (.int .i64 x.1)), (6, [], .s (.p 8 0)), (5, [], .s (.p 6 0)), (4, [], .s (.p 5 0))], [(13, eL L FL), (14, eD D), (12, jT (okT b (pre))), (8, .box 94 [.ref 0, .int .i64 b.rule, .int .i64 b.most, .v (.map (some gM1))]), (7, mapE gM1 (plL b) plKey plVal), (6, .box 44 [.int .i64 0]), (5, .box 3 [.int .i64 0]), (4, .box 24 [.ref 0, .int .i64 b.rule, .int .i64 b.most]), (0, .sl .ro 61 3 b.loads encLoad zLoad), (1, .sl .ro 65 2 on encPlace zPlace), (2, .pf NobodyAt (· = 1)), (3, .pf LanesAt (· = 0))], 15, []⟩, by kernel_rfl, ?_⟩
      refine WP_seq (WP_region (WPO_all tt_ok (by kernel_rfl) ?_))
      refine WP_region (WPO_all tt_ok (by kernel_rfl) ?_)
      refine ⟨by kernel_rfl, ?_⟩
      refine WP_block ?_
      refine WP_seq (WP_region (WPO_run tt_ok 2 (by kernel_rfl) ?_))
      refine CALL 87 [.g [.ref 0, .int .i64 b.rule, .int .i64 b.most, .v (.map (some gM1))], .g [.int .i64 x.2.lo, .int .i64 x.2.hi]] (.s (.int .i64 (levelD b x.2))) [] (by kernel_rfl) (goes_of (by kernel_rfl)) (by kernel_rfl) (by kernel_rfl) (fun _ nV w h => levelD_calls (nV 0) gM1 b x.2 w (h.reads (id := 0) (kd := .ro) (e := 61) (by kernel_rfl)) (h.ents (7, mapE gM1 (plL b) plKey plVal) (fnd_mem (by kernel_rfl))).1 ) ?_
      refine WPO_all tt_ok (by kernel_rfl) ?_
      refine WP_cond (decide ((levelD b x.2) < 2)) (by kernel_rfl) (fun hc5 => ?_) (fun hc5 => ?_)
      · have hc5' := of_decide_eq_true hc5
        refine WP_seq (WP_region (WPO_all tt_ok (by kernel_rfl) ?_))
        refine WP_ret ?_
        refine ⟨_, rfl, ?_⟩
        simp only [lastP_snoc]
        refine Le.trans (Le_T (id := 12) (stopT b (pre ++ [x])) (by kernel_rfl) (fun h => ⟨pre, x, rfl, h, by assumption⟩)) ?_
        exact Le_sel (ts := []) (ids := [13, 14, 12, 8, 7, 6, 5, 4, 0, 1, 2, 3]) (nx := 15) (by kernel_rfl)
      have hc5' := of_decide_eq_false hc5
      refine WP_skip ?_
      refine Le.trans (Le_T (id := 12) (okT b (pre ++ [x])) (by kernel_rfl) (fun h => okT_snoc h (by assumption))) ?_
      exact Le_sel (ts := []) (ids := [13, 14, 12, 8, 7, 6, 5, 4, 0, 1, 2, 3]) (nx := 15) (by kernel_rfl)
    case stop =>
      intro D c pre Mr h hpre
      cases c <;> try (cases h; done)
      cases h
      refine WP_T (id := 12) (p := stopT b pre) (by kernel_rfl) (fun hst => ?_)
      refine WP_ret ?_
      exact .inr ⟨.t [(false, [.int .i64 (lastP (pre))]), (false, [.int .i64 0])], D, 14, by kernel_rfl, by kernel_rfl, by kernel_rfl, fun nV w' h => ⟨by rw [show tiltsA b on = (lastP (pre), 0) from by unfold tiltsA; simp only [hq, hc3, cond_true, cond_false]; obtain ⟨y, h1, h2⟩ := tilt_stop hst hpre; rw [h1, h2]]; rfl, h.bel⟩⟩
    case done =>
      intro D
      refine WP_T (id := 12) (p := okT b (listsD b on)) (by kernel_rfl) (fun hok => ?_)
      refine WP_seq (WP_region (WPO_all tt_ok (by kernel_rfl) ?_))
      refine WP_ret ?_
      exact .inr ⟨.t [(false, [.int .i64 0]), (false, [.int .i64 4])], D, 14, by kernel_rfl, by kernel_rfl, by kernel_rfl, fun nV w' h => ⟨by rw [show tiltsA b on = (0, 4) from by unfold tiltsA; simp only [hq, hc3, cond_true, cond_false]; rw [tilt_none hok]]; rfl, h.bel⟩⟩
end Go.Proofs.YthfnedbpmdkdjaaDoor.D
namespace Go.Proofs.YthfnedbpmdkdjaaDoor.Eng
open Go Go.RowKit
set_option linter.unusedVariables false
set_option linter.unusedSimpArgs false
section
variable {P : Program} {tt : TT} {cx : Cx} {s s0 s' : AS} {Q : Exit → AS → Prop} {ops : Array Oper} {l : List Oper}
theorem H_takeqi {o : Oper} {T : List (Nat × Bool)} {r : AV} (i : Nat) {fuel : Nat} {listed : Array Bool} (ho : ops[i]? = some o) (hg : gTag s ops o = some T) (hs' : s.put o.dst T r = some s')
    (hq : tagP { s with hp := s0.hp } T → ∀ (cx1 : Cx) n a w, (∀ id, id < cx.m0 → n id = cx.n0 id) → HSat cx1 n { s with hp := s0.hp } w → (∀ x ∈ s.env, EntOk n { s with hp := s0.hp } a x) → Holds a T → (execOp a.eval o).run P w = .ok (.value (r.c n)) w) (hvok : tagP s T → r.ok s) (hs : Region.noSelect ops = true) (hf : Region.free .any ops listed i = true) (hr : (Region.ready .any ops listed).contains i = true)
    (hK : WPH P cx ops s0 fuel (listed.setIfInBounds i true) s' Q) : WPH P cx ops s0 (fuel + 1) listed s Q := fun hfz n0 h1 h2 one n a w hst hS => by
  have hfz' : Fz s0 s' := hfz.same (put_same hs').1 (put_same hs').2.1
  have hgt := gTag_sound hst hg
  have henv' : ∀ x ∈ s.env, EntOk n { s with hp := s0.hp } a x := fun x hx => by
    have := hst.env x hx
    exact ⟨this.lt, fun hh => ⟨(this.yes hh).1, AV.ok_sub (this.yes hh).2 hfz⟩, this.no⟩
  have hsem : ∀ w', HSat (cxAt cx n0 s0.nx) n0 s0 w' → HSat (cxAt cx n0 s0.nx) n { s with hp := s0.hp } w' := fun w' hw' => by
    have hag : ∀ x ∈ s0.hp, n0 x.1 = n x.1 := fun x hx => (hst.heap.ini _ (hw'.ids x hx)).symm
    refine ⟨hw'.fr, hst.heap.ini, hst.heap.inx, hst.heap.one, fun x hx => ?_, fun x hx => ?_, ?_, fun x hx g hg => hw'.lt x hx g (by rw [hag x hx]; exact hg), fun x hx => Nat.lt_of_lt_of_le (hw'.ids x hx) hfz.nx⟩
    · show x.2.sat n cx.ok w' (n x.1)
      rw [← hag x hx]
      exact HE.sat_congr (hw'.oks x hx) (fun id hid => hst.heap.ini id hid) (hw'.ents x hx)
    · exact HE.ok_more (hw'.oks x hx) ⟨hfz.nx, fun id _ e he => ⟨e, he, Nat.le_refl _⟩⟩
    · exact hw'.sep.imp_of_mem fun {x y} hx hy hxy hm g hg => by rw [← hag x hx] at hg; rw [← hag y hy]; exact hxy hm g hg
  have hini : ∀ id, id < cx.m0 → n id = cx.n0 id := fun id hid => (hst.heap.ini id (Nat.lt_of_lt_of_le hid h2)).trans (h1 id hid)
  have hQp : ∀ c a w, PN cx Q (.panic c) (a.put o.dst (r.c n)) w → PN cx Q (.panic c) a w := fun c a w h => by cases h.1
  have hQu : ∀ c a w, PN cx Q (.panic c) (a.put o.dst undef) w → PN cx Q (.panic c) a w := fun c a w h => by cases h.1
  by_cases hH : Holds a T
  · have htp := tagP_of hst.env hH
    refine wpAnyH_take (v := r.c n) ho hs hf hr hQp (.inl ⟨hgt.2 hH, fun w' hw' => hq (tagP_hp htp) _ n a w' hini (hsem w' hw') henv' hH⟩) hS ?_
    exact hK hfz' n0 h1 h2 one n _ w (put_sat hst hs' (fun _ => ⟨rfl, hvok htp⟩) (fun hn => absurd hH hn)) hS
  · refine wpAnyH_take (v := undef) ho hs hf hr hQu (.inr ⟨by rcases hb : Region.wanted o (yielded ops a.tmps) with _ | _; rfl; exact absurd (hgt.1 hb) hH, rfl⟩) hS ?_
    exact hK hfz' n0 h1 h2 one n _ w (put_sat hst hs' (fun hH' => absurd hH' hH) (fun _ => rfl)) hS
theorem H_LDGi (hT : TTok P tt) (i : Nat) (t g off : Nat) (d : Option Tmp) (cs : List AC) (ty : TypeId) (v : AV) {fuel : Nat} {listed : Array Bool} (h : ldoA ops s (opAt ops i) = some (t, g, off, d)) (hv : ((tyL tt t).bind fun i => sub cs off i.size i.d.ag) = some v) (hok : okB s v = true)
    (hw : ∀ cx1 n w, (∀ id, id < cx.m0 → n id = cx.n0 id) → HSat cx1 n { s with hp := s0.hp } w → w.heap[g]? = some (.cells (cellsV n cs) ty (0, 0))) (hp : (s.put d [] v).isSome = true) (hs : Region.noSelect ops = true) (hb : takB ops listed i = true)
    (hK : WPH P cx ops s0 fuel (listed.setIfInBounds i true) ((s.put d [] v).getD s) Q) : WPH P cx ops s0 (fuel + 1) listed s Q := by
  obtain ⟨o, rest, hl, hg, rfl, hrun⟩ := ldo_sound (ty := ty) hT h hv
  obtain ⟨s', hs'⟩ := Option.isSome_iff_exists.1 hp
  rw [hs'] at hK
  have hb' := hb
  simp only [takB, Bool.and_eq_true] at hb'
  have hgt : gTag s ops o = some [] := by unfold gTag; rw [hg]
  exact H_takeqi (T := []) (r := v) i (opAt_cons hl) hgt hs' (fun _ cx1 n a w hi hh henv _ => hrun n a w { s with hp := s0.hp } rfl henv (hw cx1 n w hi hh)) (fun _ => okB_sound hok) hs hb'.1 hb'.2 hK
theorem ev_hp (hp : List (Nat × HE)) (T : List (Nat × Bool)) (x : Operand) : ev { s with hp := hp } T x = ev s T x := by
  cases x <;> rfl
theorem H_BIN (i : Nat) (op : BinOp) (t : TypeId) (x y : Operand) (u v r : AV) (G : List (Bool × Bool)) {fuel : Nat} {listed : Array Bool} (h : (binA ops s (opAt ops i)).map (fun z => (z.1, z.2.1, z.2.2.1, z.2.2.2.1, z.2.2.2.2.1, z.2.2.2.2.2.1, z.2.2.2.2.2.2.1)) = some (op, t, x, y, u, v, G))
    (hp : (binP ops s (opAt ops i) r).isSome = true) (hr : okB s r = true) (hb : AllEq G → ∀ cx1, BinOk P cx1 { s with hp := s0.hp } op t x y u v r) (hs : Region.noSelect ops = true) (hk : takB ops listed i = true)
    (hK : WPH P cx ops s0 fuel (listed.setIfInBounds i true) ((binP ops s (opAt ops i) r).getD s) Q) : WPH P cx ops s0 (fuel + 1) listed s Q := by
  obtain ⟨⟨op', t', x', y', u', v', G', d, T⟩, hr', he⟩ := Option.map_eq_some_iff.1 h
  simp only [Prod.mk.injEq] at he
  obtain ⟨rfl, rfl, rfl, rfl, rfl, rfl, rfl⟩ := he
  obtain ⟨o, rest, t'', hl, ho, hg, hu, hv, rfl, rfl⟩ := binA_spec hr'
  obtain ⟨s', hs'⟩ := Option.isSome_iff_exists.1 hp
  rw [hs'] at hK
  simp only [binP, hr'] at hs'
  simp only [takB, Bool.and_eq_true] at hk
  refine H_takeqi (r := r) i (opAt_cons hl) hg hs' (fun htp cx1 n a w _ hh henv hH => ?_) (fun _ => okB_sound hr) hs hk.1 hk.2 hK
  obtain ⟨e1, _⟩ := ev_sound (s := { s with hp := s0.hp }) henv hH (by rw [ev_hp]; exact hu)
  obtain ⟨e2, _⟩ := ev_sound (s := { s with hp := s0.hp }) henv hH (by rw [ev_hp]; exact hv)
  unfold execOp
  rw [ho]
  simp only [e1, e2]
  have htp2 : tagP s T := tagP_hp (s := { s with hp := s0.hp }) (hp := s.hp) htp
  rw [Sem.run_bind, hb (tagP_all htp2) cx1 n w hh]
  rfl
end
end Go.Proofs.YthfnedbpmdkdjaaDoor.Eng
namespace Go.Proofs.YthfnedbpmdkdjaaDoor.D
open Go Go.RowKit Go.Proofs.YthfnedbpmdkdjaaDoor.Eng Go.Proofs.YthfnedbpmdkdjaaDoor.Cm
set_option linter.unusedVariables false
set_option linter.unusedSimpArgs false
set_option linter.unusedSectionVars false
def bitI (left : Int) (k : Nat) : Int := (IntKind.i64.wrap (BitVec.ofInt IntKind.i64.bits (Int.fdiv left (2 ^ (min (k : Int).toNat IntKind.i64.bits))) &&& BitVec.ofInt IntKind.i64.bits 1).toNat)
def offI (left : Int) (k : Nat) : Int := (IntKind.i64.wrap (BitVec.ofInt IntKind.i64.bits left &&& ~~~(BitVec.ofInt IntKind.i64.bits (IntKind.i64.wrap (1 * 2 ^ (min (k : Int).toNat IntKind.i64.bits))))).toNat)
def DriveC (b : DBook) (sv : Value) (gx gc gm : Nat) (R : Nat → Int → Prop) (F : List Place → Span → Int → List Place × Bool) : Prop := ∀ (tv : Value) (on : List Place) (nw : Nat → Int) (l : Span) (left : Int) (w : World), R on.length left → Reads w sv 3 b.loads encLoad zLoad → Reads w tv 2 on encPlace zPlace → (fun w => w.heap[gx]? = some (.cells #[sv, iv b.rule, iv b.most, .map (some gm)] 94 (0, 0))) w → (fun w => w.heap[gc]? = some (.cells #[.func (.func 119) #[] #[.pointer (some ⟨gx, 0, none⟩), .pointer (some ⟨gc, 0, none⟩)]] 128 (0, 0))) w → (fun w => w.heap[gm]? = some (.map (ents (plL b) plKey plVal) (plL b).length)) w → LanesAt w →
    Calls Tryd.prog 119 #[tv, .agg ((List.range 5).map fun i => iv (nw i)).toArray, .agg #[iv l.lo, iv l.hi], iv left, .pointer (some ⟨gx, 0, none⟩), .pointer (some ⟨gc, 0, none⟩)] w fun e w' => ∃ v, e = .returned (.tuple #[v, .bool (F on l left).2]) ∧ Below w.heap.size w w' ∧ Reads w' v 2 (F on l left).1 encPlace zPlace ∧ (∀ g, vblk v = some g → vblk tv = some g ∨ (w.heap.size ≤ g ∧ g < w'.heap.size))
def driveS_c2 (b : DBook) (F : List Place → Span → Int → List Place × Bool) (on : List Place) (l : Span) (left : Int) (k1 : Nat) (k2 : Nat) : Unit → Bool := fun _ => decide ((k2 : Int) < 3)
def driveS_b2 (b : DBook) (F : List Place → Span → Int → List Place × Bool) (on : List Place) (l : Span) (left : Int) (k1 : Nat) (k2 : Nat) : Unit → Bd Unit (List Place × Bool) := fun _ => (bif (!(atP (plL b) plK plIs (k1 : Int) (k2 : Int))) || (decide ((levelD b (laneF (k2 : Int) l (b.loads.getD k1 zLoad).w)) < 2)) then .go () else (bif (F ((cut on 0 (on.length : Int)) ++ ([(⟨(k1 : Int), (k2 : Int)⟩ : Place)])) (laneF (k2 : Int) l (b.loads.getD k1 zLoad).w) (IntKind.i64.wrap (BitVec.ofInt IntKind.i64.bits left &&& ~~~(BitVec.ofInt IntKind.i64.bits (IntKind.i64.wrap (1 * 2 ^ (min (k1 : Int).toNat IntKind.i64.bits))))).toNat)).2 then .ret ((F ((cut on 0 (on.length : Int)) ++ ([(⟨(k1 : Int), (k2 : Int)⟩ : Place)])) (laneF (k2 : Int) l (b.loads.getD k1 zLoad).w) (IntKind.i64.wrap (BitVec.ofInt IntKind.i64.bits left &&& ~~~(BitVec.ofInt IntKind.i64.bits (IntKind.i64.wrap (1 * 2 ^ (min (k1 : Int).toNat IntKind.i64.bits))))).toNat)).1, true) else .go ()))
def driveS_c1 (b : DBook) (F : List Place → Span → Int → List Place × Bool) (on : List Place) (l : Span) (left : Int) (k1 : Nat) : Unit → Bool := fun _ => decide ((k1 : Int) < (b.loads.length : Int))
def driveS_b1 (b : DBook) (F : List Place → Span → Int → List Place × Bool) (on : List Place) (l : Span) (left : Int) (k1 : Nat) : Unit → Bd Unit (List Place × Bool) := fun _ => (bif (IntKind.i64.wrap (BitVec.ofInt IntKind.i64.bits (Int.fdiv left (2 ^ (min (k1 : Int).toNat IntKind.i64.bits))) &&& BitVec.ofInt IntKind.i64.bits 1).toNat) == 0 then .go () else (match loopR (driveS_c2 b F on l left k1) (driveS_b2 b F on l left k1) 3 0 () with | .brk () => .go () | .ret r => .ret r))
def driveS (b : DBook) (F : List Place → Span → Int → List Place × Bool) (on : List Place) (l : Span) (left : Int) : List Place × Bool :=
  (bif left == 0 then (on, true) else (match loopR (driveS_c1 b F on l left) (driveS_b1 b F on l left) b.loads.length 0 () with | .brk () => ([], false) | .ret r => r))
theorem driveS_calls (b : DBook) (F : List Place → Span → Int → List Place × Bool) (R : Nat → Int → Prop) (on : List Place) (nw : Nat → Int) (l : Span) (left : Int) (sv tv : Value) (gx gc gm : Nat) (w : World) (rb : Reads w sv 3 b.loads encLoad zLoad) (rd : Reads w tv 2 on encPlace zPlace) (hx : (fun w => w.heap[gx]? = some (.cells #[sv, iv b.rule, iv b.most, .map (some gm)] 94 (0, 0))) w) (hc : (fun w => w.heap[gc]? = some (.cells #[.func (.func 119) #[] #[.pointer (some ⟨gx, 0, none⟩), .pointer (some ⟨gc, 0, none⟩)]] 128 (0, 0))) w) (hm : (fun w => w.heap[gm]? = some (.map (ents (plL b) plKey plVal) (plL b).length)) w) (hla : LanesAt w) (hb5 : b.loads.length ≤ 5) (hon : on.length ≤ 10) (hF : DriveC b sv gx gc gm R F) (hR : ∀ k : Nat, k < b.loads.length → ((bitI left k) == 0) = false → R (on.length + 1) (offI left k)) : Calls Tryd.prog 119 #[tv, .agg ((List.range 5).map fun i => iv (nw i)).toArray, .agg #[iv l.lo, iv l.hi], iv left, .pointer (some ⟨gx, 0, none⟩), .pointer (some ⟨gc, 0, none⟩)] w fun e w' => ∃ v, e = .returned (.tuple #[v, .bool (driveS b F on l left).2]) ∧ Below w.heap.size w w' ∧ Reads w' v 2 (driveS b F on l left).1 encPlace zPlace ∧ (∀ g, vblk v = some g → vblk tv = some g ∨ (w.heap.size ≤ g ∧ g < w'.heap.size)) := by
  refine calls_of_WP (cx := cx0 w (vn [sv, tv]) 2) (n := vn [sv, tv]) (vs := [.s (.ref 1), .g (arrI 5 nw), .g [.int .i64 l.lo, .int .i64 l.hi], .s (.int .i64 left), .s (.v (.pointer (some ⟨gx, 0, none⟩))), .s (.v (.pointer (some ⟨gc, 0, none⟩)))]) (hp := [(0, .sl .ro 61 3 b.loads encLoad zLoad), (1, .sl .ro 65 2 on encPlace zPlace), (2, .pf (fun w => w.heap[gx]? = some (.cells #[sv, iv b.rule, iv b.most, .map (some gm)] 94 (0, 0))) (· = gx)), (3, .pf (fun w => w.heap[gc]? = some (.cells #[.func (.func 119) #[] #[.pointer (some ⟨gx, 0, none⟩), .pointer (some ⟨gc, 0, none⟩)]] 128 (0, 0))) (· = gc)), (4, mapF gm (plL b) plKey plVal), (5, .pf LanesAt (· = 0))]) (nx := 6) tt_ok Tryd.func119 rfl rfl rfl (by kernel_rfl) (HSat_args (vn_one (by simp [rb.one, rd.one])) (by decide) ⟨⟨⟨fun _ => rfl, by decide, rb⟩, (Nat.le_of_ble_eq_true rfl)⟩, ⟨⟨fun _ => rfl, by decide, rd⟩, (Nat.le_of_ble_eq_true rfl)⟩, ⟨⟨hx, fun w1 w2 h1 hw => (hw gx rfl).trans h1, fun g hg => by cases hg; exact (Array.getElem?_eq_some_iff.1 hx).1⟩, (Nat.le_of_ble_eq_true rfl)⟩, ⟨⟨hc, fun w1 w2 h1 hw => (hw gc rfl).trans h1, fun g hg => by cases hg; exact (Array.getElem?_eq_some_iff.1 hc).1⟩, (Nat.le_of_ble_eq_true rfl)⟩, ⟨⟨hm, fun w1 w2 h1 hw => (hw gm rfl).trans h1, fun g hg => by cases hg; exact (Array.getElem?_eq_some_iff.1 hm).1⟩, (Nat.le_of_ble_eq_true rfl)⟩, ⟨⟨hla, fun w1 w2 h1 hw => (hw 0 rfl).trans h1, fun g hg => by cases hg; exact (Array.getElem?_eq_some_iff.1 hla).1⟩, (Nat.le_of_ble_eq_true rfl)⟩, trivial⟩) (vsOk (by kernel_rfl)) ?_
  have hcut : (cut on 0 (on.length : Int)).length = on.length := by simp [cut]
  have hR1 : ∀ (k : Nat) (x : Place), k < b.loads.length → ((IntKind.i64.wrap (BitVec.ofInt IntKind.i64.bits (Int.fdiv left (2 ^ (min (k : Int).toNat IntKind.i64.bits))) &&& BitVec.ofInt IntKind.i64.bits 1).toNat) == 0) = false → R (cut on 0 (on.length : Int) ++ [x]).length (IntKind.i64.wrap (BitVec.ofInt IntKind.i64.bits left &&& ~~~(BitVec.ofInt IntKind.i64.bits (IntKind.i64.wrap (1 * 2 ^ (min (k : Int).toNat IntKind.i64.bits))))).toNat) := by
    intro k x h1 h2; have := hR k h1 h2; rw [List.length_append, hcut]; exact this
  refine WP_seq (WP_region (WPO_all tt_ok (by kernel_rfl) ?_))
  refine WP_seq (WP_seq (WP_region (WPO_all tt_ok (by kernel_rfl) ?_)))
  refine WP_cond (left == 0) (by kernel_rfl) (fun hc2 => ?_) (fun hc2 => ?_)
  · have hc2' := hc2; try simp only [Bool.and_eq_true, Bool.or_eq_true, Bool.and_eq_false_iff, Bool.or_eq_false_iff, Bool.not_eq_true', Bool.not_eq_false', decide_eq_true_eq, decide_eq_false_iff_not, beq_iff_eq, beq_eq_false_iff_ne, bne_iff_ne, bne_eq_false_iff_eq, ne_eq] at hc2'
    refine WP_seq (WP_region (WPO_all tt_ok (by kernel_rfl) ?_))
    refine WP_ret ?_
    exact ⟨.t [(false, [.ref 1]), (false, [.bool true])], by kernel_rfl, fun nV w' h => ⟨nV 1, by rw [show driveS b F on l left = (on, true) from by unfold driveS; simp only [hc2, cond_true, cond_false]]; rfl, h.bel, by rw [show driveS b F on l left = (on, true) from by unfold driveS; simp only [hc2, cond_true, cond_false]]; exact h.reads (id := 1) (kd := .ro) (e := 65) (by kernel_rfl), fun g hg => .inl (by have e2 : nV 1 = tv := h.ini 1 (by show 1 < 2; decide); rw [← e2]; exact hg)⟩⟩
  have hc2' := hc2; try simp only [Bool.and_eq_true, Bool.or_eq_true, Bool.and_eq_false_iff, Bool.or_eq_false_iff, Bool.not_eq_true', Bool.not_eq_false', decide_eq_true_eq, decide_eq_false_iff_not, beq_iff_eq, beq_eq_false_iff_ne, bne_iff_ne, bne_eq_false_iff_eq, ne_eq] at hc2'
  refine WP_skip ?_
  refine WP_seq (WP_seq (WP_region (WPO_run tt_ok 2 (by kernel_rfl) ?_)))
  refine LDGo tt_ok 22 gx 0 (some 24) [.ref 0, .int .i64 b.rule, .int .i64 b.most, .v (.map (some gm))] 94 (.s (.ref 0)) (by kernel_rfl) (by kernel_rfl) (by kernel_rfl) (fun nV w h => (by have e0 : nV 0 = sv := h.ini 0 (by show 0 < 2; decide); have h3 := (h.ents (2, .pf (fun w => w.heap[gx]? = some (.cells #[sv, iv b.rule, iv b.most, .map (some gm)] 94 (0, 0))) (· = gx)) (fnd_mem (by kernel_rfl))).1; rw [← e0] at h3; exact h3)) (by kernel_rfl) ?_
  refine WPO_all tt_ok (by kernel_rfl) ?_
  refine WP_loopA (ρ := List Place × Bool) (driveS_c1 b F on l left) (driveS_b1 b F on l left) b.loads.length () (fun k : Nat => (k : Int)) (fun (ci : Int) (zz : Unit) => ⟨92, [(26, [], .s (.int .i64 ci)), (25, [], .s (.int .i64 (b.loads.length : Int))), (8, [], .s (.p 7 0)), (7, [], .s (.p 6 0)), (0, [], .s (.ref 1)), (3, [], .s (.int .i64 left)), (4, [], .s (.v (.pointer (some ⟨gx, 0, none⟩)))), (5, [], .s (.v (.pointer (some ⟨gc, 0, none⟩))))], [(7, .box 97 [.int .i64 l.lo, .int .i64 l.hi]), (6, .box 130 (arrI 5 nw)), (0, .sl .ro 61 3 b.loads encLoad zLoad), (1, .sl .ro 65 2 on encPlace zPlace), (2, .pf (fun w => w.heap[gx]? = some (.cells #[sv, iv b.rule, iv b.most, .map (some gm)] 94 (0, 0))) (· = gx)), (3, .pf (fun w => w.heap[gc]? = some (.cells #[.func (.func 119) #[] #[.pointer (some ⟨gx, 0, none⟩), .pointer (some ⟨gc, 0, none⟩)]] 128 (0, 0))) (· = gc)), (4, mapF gm (plL b) plKey plVal), (5, .pf LanesAt (· = 0))], 8, []⟩) (fun zz : Unit => ⟨92, [], [(7, .box 97 [.int .i64 l.lo, .int .i64 l.hi]), (6, .box 130 (arrI 5 nw)), (0, .sl .ro 61 3 b.loads encLoad zLoad), (1, .sl .ro 65 2 on encPlace zPlace), (2, .pf (fun w => w.heap[gx]? = some (.cells #[sv, iv b.rule, iv b.most, .map (some gm)] 94 (0, 0))) (· = gx)), (3, .pf (fun w => w.heap[gc]? = some (.cells #[.func (.func 119) #[] #[.pointer (some ⟨gx, 0, none⟩), .pointer (some ⟨gc, 0, none⟩)]] 128 (0, 0))) (· = gc)), (4, mapF gm (plL b) plKey plVal), (5, .pf LanesAt (· = 0))], 8, []⟩) (fun k zz => True) trivial ⟨0, rfl, Le_sel (ts := [26, 25, 8, 7, 0, 3, 4, 5]) (ids := [7, 6, 0, 1, 2, 3, 4, 5]) (nx := 8) (by kernel_rfl)⟩ ?_ ?_
  · intro k1 zz hn1 hp1 hi1 Q1 hq1 ho1
    refine WP_seq (WP_region (WPO_all tt_ok (by kernel_rfl) ?_))
    refine WP_seq (WP_cond (decide ((k1 : Int) < (b.loads.length : Int))) (by kernel_rfl) (fun hc3 => ?_) (fun hc3 => ?_))
    rotate_left
    · refine WP_exit ?_
      show Q1 (.exit 0) _
      exact LA_exit hq1 () (loopR_end hi1 hc3) ⟨k1, hn1, hp1⟩ (Le_sel (ts := []) (ids := [7, 6, 0, 1, 2, 3, 4, 5]) (nx := 8) (by kernel_rfl))
    have hc3' := of_decide_eq_true hc3
    have hk1 : k1 < b.loads.length := by omega
    refine WP_skip ?_
    refine WP_seq (WP_block ?_)
    refine WP_seq (WP_region (WPO_all tt_ok (by kernel_rfl) ?_))
    refine WP_scope ?_
    refine WP_seq (WP_seq (WP_region (WPO_run tt_ok 2 (by kernel_rfl) ?_)))
    refine BIN .shr 3 (.tmp 29) (.tmp 30) (.s (.int .i64 left)) (.s (.int .i64 (k1 : Int))) (.s (.int .i64 (Int.fdiv left (2 ^ (min (k1 : Int).toNat IntKind.i64.bits))))) [] (by kernel_rfl) (by kernel_rfl) (by kernel_rfl) (fun _ => BinOk_shr (by omega)) ?_
    refine WPO_all tt_ok (by kernel_rfl) ?_
    refine WP_cond ((IntKind.i64.wrap (BitVec.ofInt IntKind.i64.bits (Int.fdiv left (2 ^ (min (k1 : Int).toNat IntKind.i64.bits))) &&& BitVec.ofInt IntKind.i64.bits 1).toNat) == 0) (by kernel_rfl) (fun hc5 => ?_) (fun hc5 => ?_)
    · have hc5' := hc5; try simp only [Bool.and_eq_true, Bool.or_eq_true, Bool.and_eq_false_iff, Bool.or_eq_false_iff, Bool.not_eq_true', Bool.not_eq_false', decide_eq_true_eq, decide_eq_false_iff_not, beq_iff_eq, beq_eq_false_iff_ne, bne_iff_ne, bne_eq_false_iff_eq, ne_eq] at hc5'
      refine WP_exit ?_
      refine WP_region (WPO_all tt_ok (by kernel_rfl) ?_)
      show Q1 .normal _
      exact LA_go hq1 (ci := IntKind.i64.wrap ((k1 : Int) + 1)) () hk1 (by show _ = ((k1 + 1 : Nat) : Int); rw [wrapI (by omega) (by omega)]; omega) (loopR_go hi1 hk1 hc3 (by unfold driveS_b1; simp only [hc5, cond_true, cond_false])) trivial (Le_sel (ts := [26, 25, 8, 7, 0, 3, 4, 5]) (ids := [7, 6, 0, 1, 2, 3, 4, 5]) (nx := 8) (by kernel_rfl))
    have hc5' := hc5; try simp only [Bool.and_eq_true, Bool.or_eq_true, Bool.and_eq_false_iff, Bool.or_eq_false_iff, Bool.not_eq_true', Bool.not_eq_false', decide_eq_true_eq, decide_eq_false_iff_not, beq_iff_eq, beq_eq_false_iff_ne, bne_iff_ne, bne_eq_false_iff_eq, ne_eq] at hc5'
    refine WP_skip ?_
    refine WP_seq (WP_label ?_)
    refine WP_seq (WP_region (WPO_all tt_ok (by kernel_rfl) ?_))
    refine WP_loopA (ρ := List Place × Bool) (driveS_c2 b F on l left k1) (driveS_b2 b F on l left k1) 3 () (fun k : Nat => (k : Int)) (fun (ci : Int) (zz : Unit) => ⟨92, [(34, [], .s (.int .i64 ci)), (12, [], .s (.int .i64 (k1 : Int))), (26, [], .s (.int .i64 (k1 : Int))), (25, [], .s (.int .i64 (b.loads.length : Int))), (8, [], .s (.p 7 0)), (7, [], .s (.p 6 0)), (0, [], .s (.ref 1)), (3, [], .s (.int .i64 left)), (4, [], .s (.v (.pointer (some ⟨gx, 0, none⟩)))), (5, [], .s (.v (.pointer (some ⟨gc, 0, none⟩))))], [(7, .box 97 [.int .i64 l.lo, .int .i64 l.hi]), (6, .box 130 (arrI 5 nw)), (0, .sl .ro 61 3 b.loads encLoad zLoad), (1, .sl .ro 65 2 on encPlace zPlace), (2, .pf (fun w => w.heap[gx]? = some (.cells #[sv, iv b.rule, iv b.most, .map (some gm)] 94 (0, 0))) (· = gx)), (3, .pf (fun w => w.heap[gc]? = some (.cells #[.func (.func 119) #[] #[.pointer (some ⟨gx, 0, none⟩), .pointer (some ⟨gc, 0, none⟩)]] 128 (0, 0))) (· = gc)), (4, mapF gm (plL b) plKey plVal), (5, .pf LanesAt (· = 0))], 8, []⟩) (fun zz : Unit => ⟨92, [(26, [], .s (.int .i64 (k1 : Int))), (25, [], .s (.int .i64 (b.loads.length : Int))), (8, [], .s (.p 7 0)), (7, [], .s (.p 6 0)), (0, [], .s (.ref 1)), (3, [], .s (.int .i64 left)), (4, [], .s (.v (.pointer (some ⟨gx, 0, none⟩)))), (5, [], .s (.v (.pointer (some ⟨gc, 0, none⟩))))], [(7, .box 97 [.int .i64 l.lo, .int .i64 l.hi]), (6, .box 130 (arrI 5 nw)), (0, .sl .ro 61 3 b.loads encLoad zLoad), (1, .sl .ro 65 2 on encPlace zPlace), (2, .pf (fun w => w.heap[gx]? = some (.cells #[sv, iv b.rule, iv b.most, .map (some gm)] 94 (0, 0))) (· = gx)), (3, .pf (fun w => w.heap[gc]? = some (.cells #[.func (.func 119) #[] #[.pointer (some ⟨gx, 0, none⟩), .pointer (some ⟨gc, 0, none⟩)]] 128 (0, 0))) (· = gc)), (4, mapF gm (plL b) plKey plVal), (5, .pf LanesAt (· = 0))], 8, []⟩) (fun k zz => True) trivial ⟨0, rfl, Le_sel (ts := [34, 12, 26, 25, 8, 7, 0, 3, 4, 5]) (ids := [7, 6, 0, 1, 2, 3, 4, 5]) (nx := 8) (by kernel_rfl)⟩ ?_ ?_
    · intro k2 zz hn2 hp2 hi2 Q2 hq2 ho2
      refine WP_seq (WP_region (WPO_all tt_ok (by kernel_rfl) ?_))
      refine WP_seq (WP_cond (decide ((k2 : Int) < 3)) (by kernel_rfl) (fun hc6 => ?_) (fun hc6 => ?_))
      rotate_left
      · refine WP_exit ?_
        show Q2 (.exit 2) _
        exact LA_exit hq2 () (loopR_end hi2 hc6) ⟨k2, hn2, hp2⟩ (Le_sel (ts := [26, 25, 8, 7, 0, 3, 4, 5]) (ids := [7, 6, 0, 1, 2, 3, 4, 5]) (nx := 8) (by kernel_rfl))
      have hc6' := of_decide_eq_true hc6
      have hk2 : k2 < 3 := by omega
      refine WP_skip ?_
      refine WP_seq (WP_block ?_)
      refine WP_seq (WP_region (WPO_all tt_ok (by kernel_rfl) ?_))
      refine WP_seq (WP_region (WPO_all tt_ok (by kernel_rfl) ?_))
      refine WP_seq (WP_toX (σ := Unit) (fun _ => ⟨92, [(15, [], .s (.p 9 0)), (14, [], .s (.p 8 0)), (13, [], .s (.int .i64 (k2 : Int))), (34, [], .s (.int .i64 (k2 : Int))), (12, [], .s (.int .i64 (k1 : Int))), (26, [], .s (.int .i64 (k1 : Int))), (25, [], .s (.int .i64 (b.loads.length : Int))), (8, [], .s (.p 7 0)), (7, [], .s (.p 6 0)), (0, [], .s (.ref 1)), (3, [], .s (.int .i64 left)), (4, [], .s (.v (.pointer (some ⟨gx, 0, none⟩)))), (5, [], .s (.v (.pointer (some ⟨gc, 0, none⟩))))], [(9, .box 97 [.int .i64 (laneF (k2 : Int) l (b.loads.getD k1 zLoad).w).lo, .int .i64 (laneF (k2 : Int) l (b.loads.getD k1 zLoad).w).hi]), (8, .box 65 [.int .i64 (k1 : Int), .int .i64 (k2 : Int)]), (7, .box 97 [.int .i64 l.lo, .int .i64 l.hi]), (6, .box 130 (arrI 5 nw)), (0, .sl .ro 61 3 b.loads encLoad zLoad), (1, .sl .ro 65 2 on encPlace zPlace), (2, .pf (fun w => w.heap[gx]? = some (.cells #[sv, iv b.rule, iv b.most, .map (some gm)] 94 (0, 0))) (· = gx)), (3, .pf (fun w => w.heap[gc]? = some (.cells #[.func (.func 119) #[] #[.pointer (some ⟨gx, 0, none⟩), .pointer (some ⟨gc, 0, none⟩)]] 128 (0, 0))) (· = gc)), (4, mapF gm (plL b) plKey plVal), (5, .pf LanesAt (· = 0))], 10, []⟩) ?_ ?_)
      · refine WP_drawH [] (by kernel_rfl) (by kernel_rfl) ?_
        refine H_run tt_ok [0] (f' := 13) (by kernel_rfl) (by kernel_rfl) (by kernel_rfl) ?_
        refine H_GIX tt_ok 1 (k2 : Int) 3 [] (by kernel_rfl) (fun hG => ⟨by omega, by omega⟩) (by kernel_rfl) (by kernel_rfl) ?_
        refine H_LDG tt_ok 2 126 0 (0 + (k2 : Int).toNat * 1) (some 42) [.v (.func (.func 147) #[] #[]), .v (.func (.func 145) #[] #[]), .v (.func (.func 148) #[] #[])] 127 (.s (.v (.func (.func (laneK (k2 : Int))) #[] #[]))) (by kernel_rfl) (lane_sub ⟨by omega, by omega⟩) (by kernel_rfl) (fun _ nV w h => (h.ents (5, .pf LanesAt (· = 0)) (fnd_mem (by kernel_rfl))).1) (by kernel_rfl) (by kernel_rfl) (by kernel_rfl) ?_
        refine H_run tt_ok [3, 4, 5] (f' := 8) (by kernel_rfl) (by kernel_rfl) (by kernel_rfl) ?_
        refine H_LDGi tt_ok 6 22 gx 0 (some 46) [.ref 0, .int .i64 b.rule, .int .i64 b.most, .v (.map (some gm))] 94 (.s (.ref 0)) (by kernel_rfl) (by kernel_rfl) (by kernel_rfl) (fun _ nV w hi h => (by have e0 : nV 0 = sv := hi 0 (by show 0 < 2; decide); have h3 := (h.ents (2, .pf (fun w => w.heap[gx]? = some (.cells #[sv, iv b.rule, iv b.most, .map (some gm)] 94 (0, 0))) (· = gx)) (fnd_mem (by kernel_rfl))).1; rw [← e0] at h3; exact h3)) (by kernel_rfl) (by kernel_rfl) (by kernel_rfl) ?_
        refine H_run tt_ok [7] (f' := 6) (by kernel_rfl) (by kernel_rfl) (by kernel_rfl) ?_
        refine H_IX tt_ok 8 (k1 : Int) b.loads.length [] (by kernel_rfl) (fun hG => ⟨by omega, by omega⟩) (by kernel_rfl) (by kernel_rfl) ?_
        refine H_two 9 12 (by kernel_rfl) (by kernel_rfl) (by kernel_rfl) (fun hfz cx' hx1 hx2 => ?_) (fun hfz cx' hx1 hx2 => ?_)
        · refine WPO_all tt_ok (by kernel_rfl) ?_
          refine ⟨rfl, (hfz.fnds [8, 7, 6, 0, 1, 2, 3, 4, 5] (by kernel_rfl) ⟨by kernel_rfl, by kernel_rfl, by kernel_rfl, by kernel_rfl, by kernel_rfl, by kernel_rfl, by kernel_rfl, by kernel_rfl, by kernel_rfl, trivial⟩ (by kernel_rfl)), ?_⟩
          refine H_run tt_ok [10] (f' := 3) (by kernel_rfl) (by kernel_rfl) (by kernel_rfl) ?_
          refine H_two 11 12 (by kernel_rfl) (by kernel_rfl) (by kernel_rfl) (fun hfz cx' hx1 hx2 => ?_) (fun hfz cx' hx1 hx2 => ?_)
          · refine CALL (laneK (k2 : Int)) [.g [.int .i64 l.lo, .int .i64 l.hi], .g [.int .i64 (b.loads.getD k1 zLoad).w.lo, .int .i64 (b.loads.getD k1 zLoad).w.hi]] (.g [.int .i64 (laneF (k2 : Int) l (b.loads.getD k1 zLoad).w).lo, .int .i64 (laneF (k2 : Int) l (b.loads.getD k1 zLoad).w).hi]) [] (by kernel_rfl) (lane_goes (k2 : Int)) (by kernel_rfl) (by kernel_rfl) (fun _ nV w h => lane_calls (k2 : Int) l (b.loads.getD k1 zLoad).w w) ?_
            refine WPO_end (by kernel_rfl) ⟨rfl, (hfz.fnds [8, 7, 6, 0, 1, 2, 3, 4, 5] (by kernel_rfl) ⟨by kernel_rfl, by kernel_rfl, by kernel_rfl, by kernel_rfl, by kernel_rfl, by kernel_rfl, by kernel_rfl, by kernel_rfl, by kernel_rfl, trivial⟩ (by kernel_rfl)), ?_⟩
            refine H_step 12 (by kernel_rfl) (by kernel_rfl) (fun hfz cx' hx1 hx2 => ?_)
            refine WPO_all tt_ok (by kernel_rfl) ?_
            refine ⟨rfl, (hfz.fnds [8, 7, 6, 0, 1, 2, 3, 4, 5] (by kernel_rfl) ⟨by kernel_rfl, by kernel_rfl, by kernel_rfl, by kernel_rfl, by kernel_rfl, by kernel_rfl, by kernel_rfl, by kernel_rfl, by kernel_rfl, trivial⟩ (by kernel_rfl)), ?_⟩
            refine H_step 13 (by kernel_rfl) (by kernel_rfl) (fun hfz cx' hx1 hx2 => ?_)
            refine WPO_all tt_ok (by kernel_rfl) ?_
            refine ⟨rfl, (hfz.fnds [8, 7, 6, 0, 1, 2, 3, 4, 5] (by kernel_rfl) ⟨by kernel_rfl, by kernel_rfl, by kernel_rfl, by kernel_rfl, by kernel_rfl, by kernel_rfl, by kernel_rfl, by kernel_rfl, by kernel_rfl, trivial⟩ (by kernel_rfl)), ?_⟩
            refine H_done (by kernel_rfl) ?_
            exact ⟨(), Le_sel (ts := [15, 14, 13, 34, 12, 26, 25, 8, 7, 0, 3, 4, 5]) (ids := [9, 8, 7, 6, 0, 1, 2, 3, 4, 5]) (nx := 10) (by kernel_rfl)⟩
          · refine WPO_all tt_ok (by kernel_rfl) ?_
            refine ⟨rfl, (hfz.fnds [8, 7, 6, 0, 1, 2, 3, 4, 5] (by kernel_rfl) ⟨by kernel_rfl, by kernel_rfl, by kernel_rfl, by kernel_rfl, by kernel_rfl, by kernel_rfl, by kernel_rfl, by kernel_rfl, by kernel_rfl, trivial⟩ (by kernel_rfl)), ?_⟩
            refine H_step 11 (by kernel_rfl) (by kernel_rfl) (fun hfz cx' hx1 hx2 => ?_)
            refine CALL (laneK (k2 : Int)) [.g [.int .i64 l.lo, .int .i64 l.hi], .g [.int .i64 (b.loads.getD k1 zLoad).w.lo, .int .i64 (b.loads.getD k1 zLoad).w.hi]] (.g [.int .i64 (laneF (k2 : Int) l (b.loads.getD k1 zLoad).w).lo, .int .i64 (laneF (k2 : Int) l (b.loads.getD k1 zLoad).w).hi]) [] (by kernel_rfl) (lane_goes (k2 : Int)) (by kernel_rfl) (by kernel_rfl) (fun _ nV w h => lane_calls (k2 : Int) l (b.loads.getD k1 zLoad).w w) ?_
            refine WPO_end (by kernel_rfl) ⟨rfl, (hfz.fnds [8, 7, 6, 0, 1, 2, 3, 4, 5] (by kernel_rfl) ⟨by kernel_rfl, by kernel_rfl, by kernel_rfl, by kernel_rfl, by kernel_rfl, by kernel_rfl, by kernel_rfl, by kernel_rfl, by kernel_rfl, trivial⟩ (by kernel_rfl)), ?_⟩
            refine H_step 13 (by kernel_rfl) (by kernel_rfl) (fun hfz cx' hx1 hx2 => ?_)
            refine WPO_all tt_ok (by kernel_rfl) ?_
            refine ⟨rfl, (hfz.fnds [8, 7, 6, 0, 1, 2, 3, 4, 5] (by kernel_rfl) ⟨by kernel_rfl, by kernel_rfl, by kernel_rfl, by kernel_rfl, by kernel_rfl, by kernel_rfl, by kernel_rfl, by kernel_rfl, by kernel_rfl, trivial⟩ (by kernel_rfl)), ?_⟩
            refine H_done (by kernel_rfl) ?_
            exact ⟨(), Le_sel (ts := [15, 14, 13, 34, 12, 26, 25, 8, 7, 0, 3, 4, 5]) (ids := [9, 8, 7, 6, 0, 1, 2, 3, 4, 5]) (nx := 10) (by kernel_rfl)⟩
        · refine WPO_all tt_ok (by kernel_rfl) ?_
          refine ⟨rfl, (hfz.fnds [8, 7, 6, 0, 1, 2, 3, 4, 5] (by kernel_rfl) ⟨by kernel_rfl, by kernel_rfl, by kernel_rfl, by kernel_rfl, by kernel_rfl, by kernel_rfl, by kernel_rfl, by kernel_rfl, by kernel_rfl, trivial⟩ (by kernel_rfl)), ?_⟩
          refine H_step 9 (by kernel_rfl) (by kernel_rfl) (fun hfz cx' hx1 hx2 => ?_)
          refine WPO_all tt_ok (by kernel_rfl) ?_
          refine ⟨rfl, (hfz.fnds [8, 7, 6, 0, 1, 2, 3, 4, 5] (by kernel_rfl) ⟨by kernel_rfl, by kernel_rfl, by kernel_rfl, by kernel_rfl, by kernel_rfl, by kernel_rfl, by kernel_rfl, by kernel_rfl, by kernel_rfl, trivial⟩ (by kernel_rfl)), ?_⟩
          refine H_run tt_ok [10] (f' := 2) (by kernel_rfl) (by kernel_rfl) (by kernel_rfl) ?_
          refine H_step 11 (by kernel_rfl) (by kernel_rfl) (fun hfz cx' hx1 hx2 => ?_)
          refine CALL (laneK (k2 : Int)) [.g [.int .i64 l.lo, .int .i64 l.hi], .g [.int .i64 (b.loads.getD k1 zLoad).w.lo, .int .i64 (b.loads.getD k1 zLoad).w.hi]] (.g [.int .i64 (laneF (k2 : Int) l (b.loads.getD k1 zLoad).w).lo, .int .i64 (laneF (k2 : Int) l (b.loads.getD k1 zLoad).w).hi]) [] (by kernel_rfl) (lane_goes (k2 : Int)) (by kernel_rfl) (by kernel_rfl) (fun _ nV w h => lane_calls (k2 : Int) l (b.loads.getD k1 zLoad).w w) ?_
          refine WPO_end (by kernel_rfl) ⟨rfl, (hfz.fnds [8, 7, 6, 0, 1, 2, 3, 4, 5] (by kernel_rfl) ⟨by kernel_rfl, by kernel_rfl, by kernel_rfl, by kernel_rfl, by kernel_rfl, by kernel_rfl, by kernel_rfl, by kernel_rfl, by kernel_rfl, trivial⟩ (by kernel_rfl)), ?_⟩
          refine H_step 13 (by kernel_rfl) (by kernel_rfl) (fun hfz cx' hx1 hx2 => ?_)
          refine WPO_all tt_ok (by kernel_rfl) ?_
          refine ⟨rfl, (hfz.fnds [8, 7, 6, 0, 1, 2, 3, 4, 5] (by kernel_rfl) ⟨by kernel_rfl, by kernel_rfl, by kernel_rfl, by kernel_rfl, by kernel_rfl, by kernel_rfl, by kernel_rfl, by kernel_rfl, by kernel_rfl, trivial⟩ (by kernel_rfl)), ?_⟩
          refine H_done (by kernel_rfl) ?_
          exact ⟨(), Le_sel (ts := [15, 14, 13, 34, 12, 26, 25, 8, 7, 0, 3, 4, 5]) (ids := [9, 8, 7, 6, 0, 1, 2, 3, 4, 5]) (nx := 10) (by kernel_rfl)⟩
      intro _
      refine WP_seq (WP_seq (WP_region (WPO_run tt_ok 1 (by kernel_rfl) ?_)))
      refine LDGo tt_ok 92 gx 3 (some 53) [.ref 0, .int .i64 b.rule, .int .i64 b.most, .v (.map (some gm))] 94 (.s (.v (.map (some gm)))) (by kernel_rfl) (by kernel_rfl) (by kernel_rfl) (fun nV w h => (by have e0 : nV 0 = sv := h.ini 0 (by show 0 < 2; decide); have h3 := (h.ents (2, .pf (fun w => w.heap[gx]? = some (.cells #[sv, iv b.rule, iv b.most, .map (some gm)] 94 (0, 0))) (· = gx)) (fnd_mem (by kernel_rfl))).1; rw [← e0] at h3; exact h3)) (by kernel_rfl) ?_
      refine WPO_run tt_ok 1 (by kernel_rfl) ?_
      refine LKP_pair tt_ok (plL b) plKey plVal plK plIs (plL b).length gm 65 4 (k1 : Int) (k2 : Int) [] (by kernel_rfl) (fun _ => rfl) (fun _ => rfl) (by kernel_rfl) (by kernel_rfl) (by kernel_rfl) (fun nV w h => (h.ents (4, mapF gm (plL b) plKey plVal) (fnd_mem (by kernel_rfl))).1) ?_
      refine WPO_run tt_ok 2 (by kernel_rfl) ?_
      refine LDGT tt_ok 94 gx 0 [(!(atP (plL b) plK plIs (k1 : Int) (k2 : Int)), false)] [.ref 0, .int .i64 b.rule, .int .i64 b.most, .v (.map (some gm))] 94 (.g [.ref 0, .int .i64 b.rule, .int .i64 b.most, .v (.map (some gm))]) (by kernel_rfl) (by kernel_rfl) (by kernel_rfl) (fun nV w h => (by have e0 : nV 0 = sv := h.ini 0 (by show 0 < 2; decide); have h3 := (h.ents (2, .pf (fun w => w.heap[gx]? = some (.cells #[sv, iv b.rule, iv b.most, .map (some gm)] 94 (0, 0))) (· = gx)) (fnd_mem (by kernel_rfl))).1; rw [← e0] at h3; exact h3)) (by kernel_rfl) ?_
      refine WPO_run tt_ok 1 (by kernel_rfl) ?_
      refine CALL 87 [.g [.ref 0, .int .i64 b.rule, .int .i64 b.most, .v (.map (some gm))], .g [.int .i64 (laneF (k2 : Int) l (b.loads.getD k1 zLoad).w).lo, .int .i64 (laneF (k2 : Int) l (b.loads.getD k1 zLoad).w).hi]] (.s (.int .i64 (levelD b (laneF (k2 : Int) l (b.loads.getD k1 zLoad).w)))) [(!(atP (plL b) plK plIs (k1 : Int) (k2 : Int)), false)] (by kernel_rfl) (goes_of (by kernel_rfl)) (by kernel_rfl) (by kernel_rfl) (fun _ nV w h => levelD_calls (nV 0) gm b (laneF (k2 : Int) l (b.loads.getD k1 zLoad).w) w (h.reads (id := 0) (kd := .ro) (e := 61) (by kernel_rfl)) (h.ents (4, mapF gm (plL b) plKey plVal) (fnd_mem (by kernel_rfl))).1 ) ?_
      refine WPO_all tt_ok (by kernel_rfl) ?_
      refine WP_cond ((!(atP (plL b) plK plIs (k1 : Int) (k2 : Int))) || (decide ((levelD b (laneF (k2 : Int) l (b.loads.getD k1 zLoad).w)) < 2))) (by kernel_rfl) (fun hc8 => ?_) (fun hc8 => ?_)
      · have hc8' := hc8; try simp only [Bool.and_eq_true, Bool.or_eq_true, Bool.and_eq_false_iff, Bool.or_eq_false_iff, Bool.not_eq_true', Bool.not_eq_false', decide_eq_true_eq, decide_eq_false_iff_not, beq_iff_eq, beq_eq_false_iff_ne, bne_iff_ne, bne_eq_false_iff_eq, ne_eq] at hc8'
        refine WP_exit ?_
        refine WP_region (WPO_all tt_ok (by kernel_rfl) ?_)
        show Q2 .normal _
        exact LA_go hq2 (ci := IntKind.i64.wrap ((k2 : Int) + 1)) () hk2 (by show _ = ((k2 + 1 : Nat) : Int); rw [wrapI (by omega) (by omega)]; omega) (loopR_go hi2 hk2 hc6 (by unfold driveS_b2; simp only [hc8, cond_true, cond_false])) trivial (Le_sel (ts := [34, 12, 26, 25, 8, 7, 0, 3, 4, 5]) (ids := [7, 6, 0, 1, 2, 3, 4, 5]) (nx := 8) (by kernel_rfl))
      have hc8' := hc8; try simp only [Bool.and_eq_true, Bool.or_eq_true, Bool.and_eq_false_iff, Bool.or_eq_false_iff, Bool.not_eq_true', Bool.not_eq_false', decide_eq_true_eq, decide_eq_false_iff_not, beq_iff_eq, beq_eq_false_iff_ne, bne_iff_ne, bne_eq_false_iff_eq, ne_eq] at hc8'
      refine WP_skip ?_
      refine WP_seq (WP_region (WPO_all tt_ok (by kernel_rfl) ?_))
      refine WP_seq (WP_region (WPO_run tt_ok 3 (by kernel_rfl) ?_))
      refine AIX tt_ok (k1 : Int) 5 [] (by kernel_rfl) (fun hG => ⟨by omega, by omega⟩) ?_
      refine AST tt_ok 10 (k1 : Int) 1 0 130 3 (arrI 5 nw) (arrI 5 (fun q => if q = k1 then IntKind.i64.wrap ((k2 : Int) + 1) else (nw) q)) (.int .i64 (IntKind.i64.wrap ((k2 : Int) + 1))) (by kernel_rfl) (by kernel_rfl) (by first | (simp [arrB, arrI]; omega) | (simp only [arrB, arrI, List.length_map, List.length_range]; omega)) (by simp only [Nat.mul_one, Nat.add_zero]; exact arrI_set (by omega)) (by kernel_rfl) ?_
      refine WPO_nil ?_
      refine WP_seq (WP_toX (σ := Value) (fun sv13 => ⟨92, [(18, [], .s (.bool (F ((cut on 0 (on.length : Int)) ++ ([(⟨(k1 : Int), (k2 : Int)⟩ : Place)])) (laneF (k2 : Int) l (b.loads.getD k1 zLoad).w) (IntKind.i64.wrap (BitVec.ofInt IntKind.i64.bits left &&& ~~~(BitVec.ofInt IntKind.i64.bits (IntKind.i64.wrap (1 * 2 ^ (min (k1 : Int).toNat IntKind.i64.bits))))).toNat)).2)), (17, [], .s (.v sv13)), (34, [], .s (.int .i64 (k2 : Int))), (12, [], .s (.int .i64 (k1 : Int))), (26, [], .s (.int .i64 (k1 : Int))), (25, [], .s (.int .i64 (b.loads.length : Int))), (8, [], .s (.p 7 0)), (7, [], .s (.p 6 0)), (0, [], .s (.ref 1)), (3, [], .s (.int .i64 left)), (4, [], .s (.v (.pointer (some ⟨gx, 0, none⟩)))), (5, [], .s (.v (.pointer (some ⟨gc, 0, none⟩))))], [(14, slE sv13 2 (F ((cut on 0 (on.length : Int)) ++ ([(⟨(k1 : Int), (k2 : Int)⟩ : Place)])) (laneF (k2 : Int) l (b.loads.getD k1 zLoad).w) (IntKind.i64.wrap (BitVec.ofInt IntKind.i64.bits left &&& ~~~(BitVec.ofInt IntKind.i64.bits (IntKind.i64.wrap (1 * 2 ^ (min (k1 : Int).toNat IntKind.i64.bits))))).toNat)).1 encPlace zPlace), (10, .box 130 (arrI 5 (fun q => if q = k1 then IntKind.i64.wrap ((k2 : Int) + 1) else (nw) q))), (9, .box 97 [.int .i64 (laneF (k2 : Int) l (b.loads.getD k1 zLoad).w).lo, .int .i64 (laneF (k2 : Int) l (b.loads.getD k1 zLoad).w).hi]), (8, .box 65 [.int .i64 (k1 : Int), .int .i64 (k2 : Int)]), (7, .box 97 [.int .i64 l.lo, .int .i64 l.hi]), (6, .box 130 (arrI 5 nw)), (0, .sl .ro 61 3 b.loads encLoad zLoad), (1, .sl .ro 65 2 on encPlace zPlace), (2, .pf (fun w => w.heap[gx]? = some (.cells #[sv, iv b.rule, iv b.most, .map (some gm)] 94 (0, 0))) (· = gx)), (3, .pf (fun w => w.heap[gc]? = some (.cells #[.func (.func 119) #[] #[.pointer (some ⟨gx, 0, none⟩), .pointer (some ⟨gc, 0, none⟩)]] 128 (0, 0))) (· = gc)), (4, mapF gm (plL b) plKey plVal), (5, .pf LanesAt (· = 0))], 15, []⟩) ?_ ?_)
      · refine WP_drawH [] (by kernel_rfl) (by kernel_rfl) ?_
        refine H_LDG tt_ok 0 128 gc 0 (some 69) [.v (.func (.func 119) #[] #[.pointer (some ⟨gx, 0, none⟩), .pointer (some ⟨gc, 0, none⟩)])] 128 (.s (.v (.func (.func 119) #[] #[.pointer (some ⟨gx, 0, none⟩), .pointer (some ⟨gc, 0, none⟩)]))) (by kernel_rfl) (by kernel_rfl) (by kernel_rfl) (fun _ nV w h => (h.ents (3, .pf (fun w => w.heap[gc]? = some (.cells #[.func (.func 119) #[] #[.pointer (some ⟨gx, 0, none⟩), .pointer (some ⟨gc, 0, none⟩)]] 128 (0, 0))) (· = gc)) (fnd_mem (by kernel_rfl))).1) (by kernel_rfl) (by kernel_rfl) (by kernel_rfl) ?_
        refine H_run tt_ok [1, 2, 3, 4, 5, 7, 10, 11, 12, 13] (f' := 11) (by kernel_rfl) (by kernel_rfl) (by kernel_rfl) ?_
        refine H_BIN 14 .shl 3 (.const (.int .i64 1)) (.tmp 82) (.s (.int .i64 1)) (.s (.int .i64 (k1 : Int))) (.s (.int .i64 (IntKind.i64.wrap (1 * 2 ^ (min (k1 : Int).toNat IntKind.i64.bits))))) [] (by kernel_rfl) (by kernel_rfl) (by kernel_rfl) (fun _ _ => BinOk_shl (by omega)) (by kernel_rfl) (by kernel_rfl) ?_
        refine H_run tt_ok [15] (f' := 9) (by kernel_rfl) (by kernel_rfl) (by kernel_rfl) ?_
        refine H_two 6 8 (by kernel_rfl) (by kernel_rfl) (by kernel_rfl) (fun hfz cx' hx1 hx2 => ?_) (fun hfz cx' hx1 hx2 => ?_)
        · refine SLC tt_ok 1 on.length .ro 65 2 0 (on.length : Int) (some (on.length : Int)) .full (some 75) (by kernel_rfl) (by kernel_rfl) ⟨by omega, by omega, by omega⟩ (.inr ⟨rfl, rfl⟩) ?_
          refine WPO_end (by kernel_rfl) ⟨rfl, (hfz.fnds [10, 9, 8, 7, 6, 0, 1, 2, 3, 4, 5] (by kernel_rfl) ⟨by kernel_rfl, by kernel_rfl, by kernel_rfl, by kernel_rfl, by kernel_rfl, by kernel_rfl, by kernel_rfl, by kernel_rfl, by kernel_rfl, by kernel_rfl, by kernel_rfl, trivial⟩ (by kernel_rfl)), ?_⟩
          refine H_step 8 (by kernel_rfl) (by kernel_rfl) (fun hfz cx' hx1 hx2 => ?_)
          refine LIT tt_ok (by kernel_rfl) ?_
          refine LITSL 12 65 1 2 [.int .i64 (k1 : Int), .int .i64 (k2 : Int)] [(⟨(k1 : Int), (k2 : Int)⟩ : Place)] encPlace zPlace (by kernel_rfl) rfl (fun _ => rfl) (fun n => rfl) ?_
          refine WPO_end (by kernel_rfl) ⟨rfl, (hfz.fnds [10, 9, 8, 7, 6, 0, 1, 2, 3, 4, 5] (by kernel_rfl) ⟨by kernel_rfl, by kernel_rfl, by kernel_rfl, by kernel_rfl, by kernel_rfl, by kernel_rfl, by kernel_rfl, by kernel_rfl, by kernel_rfl, by kernel_rfl, by kernel_rfl, trivial⟩ (by kernel_rfl)), ?_⟩
          refine H_step 9 (by kernel_rfl) (by kernel_rfl) (fun hfz cx' hx1 hx2 => ?_)
          refine APP tt_ok (.s (.ref 11)) (.s (.ref 12)) 25 65 (some 78) 2 (cut on 0 (on.length : Int)) ([(⟨(k1 : Int), (k2 : Int)⟩ : Place)]) encPlace zPlace (by kernel_rfl) (by kernel_rfl) (by kernel_rfl) (by kernel_rfl) (.inr (.inr ⟨11, rfl, (by kernel_rfl)⟩)) (.inr ⟨12, .own, rfl, (by kernel_rfl), (by simp only [List.length_cons, List.length_nil]; omega)⟩) (by simp) (fun y => rfl) (fun y => List.all_eq_true.1 rfl) (fun i hi => (by have hby : (tyL tt 65).map (·.bytes) = some 16 := (by kernel_rfl); rw [hi] at hby; simp only [Option.map_some, Option.some.injEq] at hby; rw [hby]; simp only [List.length_append, List.length_cons, List.length_nil]; omega)) ?_
          refine WPO_end (by kernel_rfl) ⟨rfl, (hfz.fnds [10, 9, 8, 7, 6, 0, 1, 2, 3, 4, 5] (by kernel_rfl) ⟨by kernel_rfl, by kernel_rfl, by kernel_rfl, by kernel_rfl, by kernel_rfl, by kernel_rfl, by kernel_rfl, by kernel_rfl, by kernel_rfl, by kernel_rfl, by kernel_rfl, trivial⟩ (by kernel_rfl)), ?_⟩
          refine H_step 16 (by kernel_rfl) (by kernel_rfl) (fun hfz cx' hx1 hx2 => ?_)
          refine CALLTK 119 [.s (.ref 13), .g (arrI 5 (fun q => if q = k1 then IntKind.i64.wrap ((k2 : Int) + 1) else (nw) q)), .g [.int .i64 (laneF (k2 : Int) l (b.loads.getD k1 zLoad).w).lo, .int .i64 (laneF (k2 : Int) l (b.loads.getD k1 zLoad).w).hi], .s (.int .i64 (IntKind.i64.wrap (BitVec.ofInt IntKind.i64.bits left &&& ~~~(BitVec.ofInt IntKind.i64.bits (IntKind.i64.wrap (1 * 2 ^ (min (k1 : Int).toNat IntKind.i64.bits))))).toNat)), .s (.v (.pointer (some ⟨gx, 0, none⟩))), .s (.v (.pointer (some ⟨gc, 0, none⟩)))] (fun sv15 => .t [(false, [.v sv15]), (false, [.bool (F ((cut on 0 (on.length : Int)) ++ ([(⟨(k1 : Int), (k2 : Int)⟩ : Place)])) (laneF (k2 : Int) l (b.loads.getD k1 zLoad).w) (IntKind.i64.wrap (BitVec.ofInt IntKind.i64.bits left &&& ~~~(BitVec.ofInt IntKind.i64.bits (IntKind.i64.wrap (1 * 2 ^ (min (k1 : Int).toNat IntKind.i64.bits))))).toNat)).2])]) 13 65 2 ((cut on 0 (on.length : Int)) ++ ([(⟨(k1 : Int), (k2 : Int)⟩ : Place)])) encPlace zPlace 2 (F ((cut on 0 (on.length : Int)) ++ ([(⟨(k1 : Int), (k2 : Int)⟩ : Place)])) (laneF (k2 : Int) l (b.loads.getD k1 zLoad).w) (IntKind.i64.wrap (BitVec.ofInt IntKind.i64.bits left &&& ~~~(BitVec.ofInt IntKind.i64.bits (IntKind.i64.wrap (1 * 2 ^ (min (k1 : Int).toNat IntKind.i64.bits))))).toNat)).1 encPlace zPlace (by kernel_rfl) (by kernel_rfl) (goes_of (by kernel_rfl)) (fun _ => (by kernel_rfl)) (fun _ => (by kernel_rfl)) (fun _ _ _ => rfl) (fun nV w h => (by have e0 : nV 0 = sv := (h.ini 0 (Nat.lt_of_lt_of_le (by show 0 < 2; decide) hx2.2.2)).trans (hx2.2.1 0 (by show 0 < 2; decide)); exact hF (nV 13) _ (fun q => if q = k1 then IntKind.i64.wrap ((k2 : Int) + 1) else (nw) q) (laneF (k2 : Int) l (b.loads.getD k1 zLoad).w) (IntKind.i64.wrap (BitVec.ofInt IntKind.i64.bits left &&& ~~~(BitVec.ofInt IntKind.i64.bits (IntKind.i64.wrap (1 * 2 ^ (min (k1 : Int).toNat IntKind.i64.bits))))).toNat) w (hR1 k1 _ hk1 (by assumption)) (by rw [← e0]; exact h.reads (id := 0) (kd := .ro) (e := 61) (by kernel_rfl)) (h.reads (id := 13) (kd := .own) (e := 65) (by kernel_rfl)) (by have h3 := (h.ents (2, .pf (fun w => w.heap[gx]? = some (.cells #[sv, iv b.rule, iv b.most, .map (some gm)] 94 (0, 0))) (· = gx)) (fnd_mem (by kernel_rfl))).1; exact h3) (h.ents (3, .pf (fun w => w.heap[gc]? = some (.cells #[.func (.func 119) #[] #[.pointer (some ⟨gx, 0, none⟩), .pointer (some ⟨gc, 0, none⟩)]] 128 (0, 0))) (· = gc)) (fnd_mem (by kernel_rfl))).1 (h.ents (4, mapF gm (plL b) plKey plVal) (fnd_mem (by kernel_rfl))).1 (h.ents (5, .pf LanesAt (· = 0)) (fnd_mem (by kernel_rfl))).1)) (fun sv15 => ?_)
          refine WPO_end (by kernel_rfl) ⟨rfl, (hfz.fnds [10, 9, 8, 7, 6, 0, 1, 2, 3, 4, 5] (by kernel_rfl) ⟨by kernel_rfl, by kernel_rfl, by kernel_rfl, by kernel_rfl, by kernel_rfl, by kernel_rfl, by kernel_rfl, by kernel_rfl, by kernel_rfl, by kernel_rfl, by kernel_rfl, trivial⟩ (by kernel_rfl)), ?_⟩
          refine H_run tt_ok [17, 18, 19, 20, 21] (f' := 0) (by kernel_rfl) (by kernel_rfl) (by kernel_rfl) ?_
          refine H_done (by kernel_rfl) ?_
          exact ⟨sv15, Le_sel (ts := [18, 17, 34, 12, 26, 25, 8, 7, 0, 3, 4, 5]) (ids := [14, 10, 9, 8, 7, 6, 0, 1, 2, 3, 4, 5]) (nx := 15) (by kernel_rfl)⟩
        · refine LIT tt_ok (by kernel_rfl) ?_
          refine LITSL 11 65 1 2 [.int .i64 (k1 : Int), .int .i64 (k2 : Int)] [(⟨(k1 : Int), (k2 : Int)⟩ : Place)] encPlace zPlace (by kernel_rfl) rfl (fun _ => rfl) (fun n => rfl) ?_
          refine WPO_end (by kernel_rfl) ⟨rfl, (hfz.fnds [10, 9, 8, 7, 6, 0, 1, 2, 3, 4, 5] (by kernel_rfl) ⟨by kernel_rfl, by kernel_rfl, by kernel_rfl, by kernel_rfl, by kernel_rfl, by kernel_rfl, by kernel_rfl, by kernel_rfl, by kernel_rfl, by kernel_rfl, by kernel_rfl, trivial⟩ (by kernel_rfl)), ?_⟩
          refine H_step 6 (by kernel_rfl) (by kernel_rfl) (fun hfz cx' hx1 hx2 => ?_)
          refine SLC tt_ok 1 on.length .ro 65 2 0 (on.length : Int) (some (on.length : Int)) .full (some 75) (by kernel_rfl) (by kernel_rfl) ⟨by omega, by omega, by omega⟩ (.inr ⟨rfl, rfl⟩) ?_
          refine WPO_end (by kernel_rfl) ⟨rfl, (hfz.fnds [10, 9, 8, 7, 6, 0, 1, 2, 3, 4, 5] (by kernel_rfl) ⟨by kernel_rfl, by kernel_rfl, by kernel_rfl, by kernel_rfl, by kernel_rfl, by kernel_rfl, by kernel_rfl, by kernel_rfl, by kernel_rfl, by kernel_rfl, by kernel_rfl, trivial⟩ (by kernel_rfl)), ?_⟩
          refine H_step 9 (by kernel_rfl) (by kernel_rfl) (fun hfz cx' hx1 hx2 => ?_)
          refine APP tt_ok (.s (.ref 12)) (.s (.ref 11)) 25 65 (some 78) 2 (cut on 0 (on.length : Int)) ([(⟨(k1 : Int), (k2 : Int)⟩ : Place)]) encPlace zPlace (by kernel_rfl) (by kernel_rfl) (by kernel_rfl) (by kernel_rfl) (.inr (.inr ⟨12, rfl, (by kernel_rfl)⟩)) (.inr ⟨11, .own, rfl, (by kernel_rfl), (by simp only [List.length_cons, List.length_nil]; omega)⟩) (by simp) (fun y => rfl) (fun y => List.all_eq_true.1 rfl) (fun i hi => (by have hby : (tyL tt 65).map (·.bytes) = some 16 := (by kernel_rfl); rw [hi] at hby; simp only [Option.map_some, Option.some.injEq] at hby; rw [hby]; simp only [List.length_append, List.length_cons, List.length_nil]; omega)) ?_
          refine WPO_end (by kernel_rfl) ⟨rfl, (hfz.fnds [10, 9, 8, 7, 6, 0, 1, 2, 3, 4, 5] (by kernel_rfl) ⟨by kernel_rfl, by kernel_rfl, by kernel_rfl, by kernel_rfl, by kernel_rfl, by kernel_rfl, by kernel_rfl, by kernel_rfl, by kernel_rfl, by kernel_rfl, by kernel_rfl, trivial⟩ (by kernel_rfl)), ?_⟩
          refine H_step 16 (by kernel_rfl) (by kernel_rfl) (fun hfz cx' hx1 hx2 => ?_)
          refine CALLTK 119 [.s (.ref 13), .g (arrI 5 (fun q => if q = k1 then IntKind.i64.wrap ((k2 : Int) + 1) else (nw) q)), .g [.int .i64 (laneF (k2 : Int) l (b.loads.getD k1 zLoad).w).lo, .int .i64 (laneF (k2 : Int) l (b.loads.getD k1 zLoad).w).hi], .s (.int .i64 (IntKind.i64.wrap (BitVec.ofInt IntKind.i64.bits left &&& ~~~(BitVec.ofInt IntKind.i64.bits (IntKind.i64.wrap (1 * 2 ^ (min (k1 : Int).toNat IntKind.i64.bits))))).toNat)), .s (.v (.pointer (some ⟨gx, 0, none⟩))), .s (.v (.pointer (some ⟨gc, 0, none⟩)))] (fun sv16 => .t [(false, [.v sv16]), (false, [.bool (F ((cut on 0 (on.length : Int)) ++ ([(⟨(k1 : Int), (k2 : Int)⟩ : Place)])) (laneF (k2 : Int) l (b.loads.getD k1 zLoad).w) (IntKind.i64.wrap (BitVec.ofInt IntKind.i64.bits left &&& ~~~(BitVec.ofInt IntKind.i64.bits (IntKind.i64.wrap (1 * 2 ^ (min (k1 : Int).toNat IntKind.i64.bits))))).toNat)).2])]) 13 65 2 ((cut on 0 (on.length : Int)) ++ ([(⟨(k1 : Int), (k2 : Int)⟩ : Place)])) encPlace zPlace 2 (F ((cut on 0 (on.length : Int)) ++ ([(⟨(k1 : Int), (k2 : Int)⟩ : Place)])) (laneF (k2 : Int) l (b.loads.getD k1 zLoad).w) (IntKind.i64.wrap (BitVec.ofInt IntKind.i64.bits left &&& ~~~(BitVec.ofInt IntKind.i64.bits (IntKind.i64.wrap (1 * 2 ^ (min (k1 : Int).toNat IntKind.i64.bits))))).toNat)).1 encPlace zPlace (by kernel_rfl) (by kernel_rfl) (goes_of (by kernel_rfl)) (fun _ => (by kernel_rfl)) (fun _ => (by kernel_rfl)) (fun _ _ _ => rfl) (fun nV w h => (by have e0 : nV 0 = sv := (h.ini 0 (Nat.lt_of_lt_of_le (by show 0 < 2; decide) hx2.2.2)).trans (hx2.2.1 0 (by show 0 < 2; decide)); exact hF (nV 13) _ (fun q => if q = k1 then IntKind.i64.wrap ((k2 : Int) + 1) else (nw) q) (laneF (k2 : Int) l (b.loads.getD k1 zLoad).w) (IntKind.i64.wrap (BitVec.ofInt IntKind.i64.bits left &&& ~~~(BitVec.ofInt IntKind.i64.bits (IntKind.i64.wrap (1 * 2 ^ (min (k1 : Int).toNat IntKind.i64.bits))))).toNat) w (hR1 k1 _ hk1 (by assumption)) (by rw [← e0]; exact h.reads (id := 0) (kd := .ro) (e := 61) (by kernel_rfl)) (h.reads (id := 13) (kd := .own) (e := 65) (by kernel_rfl)) (by have h3 := (h.ents (2, .pf (fun w => w.heap[gx]? = some (.cells #[sv, iv b.rule, iv b.most, .map (some gm)] 94 (0, 0))) (· = gx)) (fnd_mem (by kernel_rfl))).1; exact h3) (h.ents (3, .pf (fun w => w.heap[gc]? = some (.cells #[.func (.func 119) #[] #[.pointer (some ⟨gx, 0, none⟩), .pointer (some ⟨gc, 0, none⟩)]] 128 (0, 0))) (· = gc)) (fnd_mem (by kernel_rfl))).1 (h.ents (4, mapF gm (plL b) plKey plVal) (fnd_mem (by kernel_rfl))).1 (h.ents (5, .pf LanesAt (· = 0)) (fnd_mem (by kernel_rfl))).1)) (fun sv16 => ?_)
          refine WPO_end (by kernel_rfl) ⟨rfl, (hfz.fnds [10, 9, 8, 7, 6, 0, 1, 2, 3, 4, 5] (by kernel_rfl) ⟨by kernel_rfl, by kernel_rfl, by kernel_rfl, by kernel_rfl, by kernel_rfl, by kernel_rfl, by kernel_rfl, by kernel_rfl, by kernel_rfl, by kernel_rfl, by kernel_rfl, trivial⟩ (by kernel_rfl)), ?_⟩
          refine H_run tt_ok [17, 18, 19, 20, 21] (f' := 0) (by kernel_rfl) (by kernel_rfl) (by kernel_rfl) ?_
          refine H_done (by kernel_rfl) ?_
          exact ⟨sv16, Le_sel (ts := [18, 17, 34, 12, 26, 25, 8, 7, 0, 3, 4, 5]) (ids := [14, 10, 9, 8, 7, 6, 0, 1, 2, 3, 4, 5]) (nx := 15) (by kernel_rfl)⟩
      intro sv13
      refine WP_seq (WP_region (WPO_all tt_ok (by kernel_rfl) ?_))
      refine WP_cond ((F ((cut on 0 (on.length : Int)) ++ ([(⟨(k1 : Int), (k2 : Int)⟩ : Place)])) (laneF (k2 : Int) l (b.loads.getD k1 zLoad).w) (IntKind.i64.wrap (BitVec.ofInt IntKind.i64.bits left &&& ~~~(BitVec.ofInt IntKind.i64.bits (IntKind.i64.wrap (1 * 2 ^ (min (k1 : Int).toNat IntKind.i64.bits))))).toNat)).2) (by kernel_rfl) (fun hc10 => ?_) (fun hc10 => ?_)
      · have hc10' := hc10; try simp only [Bool.and_eq_true, Bool.or_eq_true, Bool.and_eq_false_iff, Bool.or_eq_false_iff, Bool.not_eq_true', Bool.not_eq_false', decide_eq_true_eq, decide_eq_false_iff_not, beq_iff_eq, beq_eq_false_iff_ne, bne_iff_ne, bne_eq_false_iff_eq, ne_eq] at hc10'
        refine WP_seq (WP_region (WPO_all tt_ok (by kernel_rfl) ?_))
        refine WP_ret ?_
        show Q2 .ret _
        refine LA_ret hq2 ?_
        show Q1 .ret _
        refine LA_ret hq1 ?_
        have he11 := loopR_ret (r := ((F ((cut on 0 (on.length : Int)) ++ ([(⟨(k1 : Int), (k2 : Int)⟩ : Place)])) (laneF (k2 : Int) l (b.loads.getD k1 zLoad).w) (IntKind.i64.wrap (BitVec.ofInt IntKind.i64.bits left &&& ~~~(BitVec.ofInt IntKind.i64.bits (IntKind.i64.wrap (1 * 2 ^ (min (k1 : Int).toNat IntKind.i64.bits))))).toNat)).1, true)) hi2 hk2 hc6 (by unfold driveS_b2; simp only [hc8, hc10, cond_true, cond_false])
        have he12 := loopR_ret (r := ((F ((cut on 0 (on.length : Int)) ++ ([(⟨(k1 : Int), (k2 : Int)⟩ : Place)])) (laneF (k2 : Int) l (b.loads.getD k1 zLoad).w) (IntKind.i64.wrap (BitVec.ofInt IntKind.i64.bits left &&& ~~~(BitVec.ofInt IntKind.i64.bits (IntKind.i64.wrap (1 * 2 ^ (min (k1 : Int).toNat IntKind.i64.bits))))).toNat)).1, true)) hi1 hk1 hc3 (by unfold driveS_b1; simp only [hc5, he11, cond_true, cond_false])
        exact ⟨.t [(false, [.v sv13]), (false, [.bool true])], by kernel_rfl, fun nV w' h => ⟨sv13, by rw [show driveS b F on l left = ((F ((cut on 0 (on.length : Int)) ++ ([(⟨(k1 : Int), (k2 : Int)⟩ : Place)])) (laneF (k2 : Int) l (b.loads.getD k1 zLoad).w) (IntKind.i64.wrap (BitVec.ofInt IntKind.i64.bits left &&& ~~~(BitVec.ofInt IntKind.i64.bits (IntKind.i64.wrap (1 * 2 ^ (min (k1 : Int).toNat IntKind.i64.bits))))).toNat)).1, true) from by unfold driveS; simp only [hc2, he12, cond_true, cond_false]]; rfl, h.bel, by rw [show driveS b F on l left = ((F ((cut on 0 (on.length : Int)) ++ ([(⟨(k1 : Int), (k2 : Int)⟩ : Place)])) (laneF (k2 : Int) l (b.loads.getD k1 zLoad).w) (IntKind.i64.wrap (BitVec.ofInt IntKind.i64.bits left &&& ~~~(BitVec.ofInt IntKind.i64.bits (IntKind.i64.wrap (1 * 2 ^ (min (k1 : Int).toNat IntKind.i64.bits))))).toNat)).1, true) from by unfold driveS; simp only [hc2, he12, cond_true, cond_false]]; exact (slE_lt (id := 14) (v := sv13) (sz := 2) (li := (F ((cut on 0 (on.length : Int)) ++ ([(⟨(k1 : Int), (k2 : Int)⟩ : Place)])) (laneF (k2 : Int) l (b.loads.getD k1 zLoad).w) (IntKind.i64.wrap (BitVec.ofInt IntKind.i64.bits left &&& ~~~(BitVec.ofInt IntKind.i64.bits (IntKind.i64.wrap (1 * 2 ^ (min (k1 : Int).toNat IntKind.i64.bits))))).toNat)).1) (enc := encPlace) (z := zPlace) h (by kernel_rfl)).1, fun g hg => .inr ((slE_lt (id := 14) (v := sv13) (sz := 2) (li := (F ((cut on 0 (on.length : Int)) ++ ([(⟨(k1 : Int), (k2 : Int)⟩ : Place)])) (laneF (k2 : Int) l (b.loads.getD k1 zLoad).w) (IntKind.i64.wrap (BitVec.ofInt IntKind.i64.bits left &&& ~~~(BitVec.ofInt IntKind.i64.bits (IntKind.i64.wrap (1 * 2 ^ (min (k1 : Int).toNat IntKind.i64.bits))))).toNat)).1) (enc := encPlace) (z := zPlace) h (by kernel_rfl)).2 g hg)⟩⟩
      have hc10' := hc10; try simp only [Bool.and_eq_true, Bool.or_eq_true, Bool.and_eq_false_iff, Bool.or_eq_false_iff, Bool.not_eq_true', Bool.not_eq_false', decide_eq_true_eq, decide_eq_false_iff_not, beq_iff_eq, beq_eq_false_iff_ne, bne_iff_ne, bne_eq_false_iff_eq, ne_eq] at hc10'
      refine WP_skip ?_
      refine WP_region (WPO_all tt_ok (by kernel_rfl) ?_)
      show Q2 .normal _
      exact LA_go hq2 (ci := IntKind.i64.wrap ((k2 : Int) + 1)) () hk2 (by show _ = ((k2 + 1 : Nat) : Int); rw [wrapI (by omega) (by omega)]; omega) (loopR_go hi2 hk2 hc6 (by unfold driveS_b2; simp only [hc8, hc10, cond_true, cond_false])) trivial (Le_sel (ts := [34, 12, 26, 25, 8, 7, 0, 3, 4, 5]) (ids := [7, 6, 0, 1, 2, 3, 4, 5]) (nx := 8) (by kernel_rfl))
    intro zz hR2 hP2 s' hl
    refine WP_le hl ?_
    clear hl s'
    refine WP_region (WPO_all tt_ok (by kernel_rfl) ?_)
    show Q1 .normal _
    exact LA_go hq1 (ci := IntKind.i64.wrap ((k1 : Int) + 1)) () hk1 (by show _ = ((k1 + 1 : Nat) : Int); rw [wrapI (by omega) (by omega)]; omega) (loopR_go hi1 hk1 hc3 (by unfold driveS_b1; simp only [hc5, hR2, cond_true, cond_false])) trivial (Le_sel (ts := [26, 25, 8, 7, 0, 3, 4, 5]) (ids := [7, 6, 0, 1, 2, 3, 4, 5]) (nx := 8) (by kernel_rfl))
  intro zz hR1 hP1 s' hl
  refine WP_le hl ?_
  clear hl s'
  refine WP_seq (WP_region (WPO_all tt_ok (by kernel_rfl) ?_))
  refine WP_ret ?_
  exact ⟨.t [(false, [.v (.slice none 0 0)]), (false, [.bool false])], by kernel_rfl, fun nV w' h => ⟨.slice none 0 0, by rw [show driveS b F on l left = ([], false) from by unfold driveS; simp only [hc2, hR1, cond_true, cond_false]]; rfl, h.bel, by rw [show driveS b F on l left = ([], false) from by unfold driveS; simp only [hc2, hR1, cond_true, cond_false]]; exact reads_nil, fun g hg => by cases hg⟩⟩
end Go.Proofs.YthfnedbpmdkdjaaDoor.D
namespace Go.Proofs.YthfnedbpmdkdjaaDoor.D
open Go Go.RowKit Go.Proofs.YthfnedbpmdkdjaaDoor.Eng Go.Proofs.YthfnedbpmdkdjaaDoor.Cm
set_option linter.unusedVariables false
set_option linter.unusedSimpArgs false
set_option linter.unusedSectionVars false
def driveD (b : DBook) : Nat → List Place → Span → Int → List Place × Bool
  | 0 => driveS b fun _ _ _ => ([], false)
  | r + 1 => driveS b (driveD b r)
def cardI (left : Int) : Nat := ((List.range 5).filter fun k => !(bitI left k == 0)).length
def LeftOk (r : Nat) (left : Int) : Prop := (0 ≤ left ∧ left < 32) ∧ cardI left ≤ r
theorem off_all : ((List.range 32).all fun s : Nat => (List.range 5).all fun k => bitI s k == 0 || (decide (0 ≤ offI s k ∧ offI s k < 32) && (cardI (offI s k) + 1 == cardI s))) = true := by kernel_rfl
theorem off_spec {left : Int} {k : Nat} (h : 0 ≤ left ∧ left < 32) (hk : k < 5) (hb : (bitI left k == 0) = false) : (0 ≤ offI left k ∧ offI left k < 32) ∧ cardI (offI left k) + 1 = cardI left := by
  have h0 := List.all_eq_true.1 off_all left.toNat (List.mem_range.2 (by omega))
  have h1 := List.all_eq_true.1 h0 k (List.mem_range.2 hk)
  rw [show ((left.toNat : Nat) : Int) = left by omega] at h1
  simp only [hb, Bool.false_or, Bool.and_eq_true, decide_eq_true_eq, beq_iff_eq] at h1
  exact h1
theorem card_le (left : Int) : cardI left ≤ 5 := Nat.le_trans (List.length_filter_le _ _) (by simp)
theorem left5 {set : Int} (h : 0 ≤ set ∧ set < 32) : LeftOk 5 set := ⟨h, card_le set⟩
theorem card_pos {left : Int} {k : Nat} (hk : k < 5) (hb : (bitI left k == 0) = false) : 0 < cardI left := by
  unfold cardI
  exact List.length_pos_of_mem (List.mem_filter.2 ⟨List.mem_range.2 hk, by rw [hb]; rfl⟩)
theorem drive_ok {b : DBook} (hb5 : b.loads.length ≤ 5) (sv : Value) (gx gc gm : Nat) : ∀ r : Nat, DriveC b sv gx gc gm (fun n left => n + r ≤ 10 ∧ LeftOk r left) (driveD b r) := by
  intro r
  induction r with
  | zero =>
    intro tv on nw l left w hR rb rd hx hc hm hla
    exact driveS_calls b (fun _ _ _ => ([], false)) (fun _ _ => False) on nw l left sv tv gx gc gm w rb rd hx hc hm hla hb5 (by omega) (fun _ _ _ _ _ _ h => h.elim) (fun k hk hb => absurd (card_pos (by omega) hb) (by have := hR.2.2; omega))
  | succ r ih =>
    intro tv on nw l left w hR rb rd hx hc hm hla
    refine driveS_calls b (driveD b r) (fun n left => n + r ≤ 10 ∧ LeftOk r left) on nw l left sv tv gx gc gm w rb rd hx hc hm hla hb5 (by omega) ih (fun k hk hb => ?_)
    have h1 := off_spec hR.2.1 (by omega) hb
    exact ⟨by omega, h1.1, by have := hR.2.2; omega⟩
theorem drive_top {b : DBook} (hb5 : b.loads.length ≤ 5) (a0 x c cl : Value) (gx gc gm : Nat) (set : Int) (nw : Nat → Int) (w : World) (hset : 0 ≤ set ∧ set < 32) (rb : Reads w a0 3 b.loads encLoad zLoad) (hm : w.heap[gm]? = some (.map (ents (plL b) plKey plVal) (plL b).length)) (hla : LanesAt w) (hx : x = .pointer (some ⟨gx, 0, none⟩)) (hc : c = .pointer (some ⟨gc, 0, none⟩))
    (hxh : w.heap[gx]? = some (.cells #[a0, iv b.rule, iv b.most, .map (some gm)] 94 (0, 0))) (hcl : cl = .func (.func 119) #[] #[ptrAt x 0, ptrAt c 0]) (hch : w.heap[gc]? = some (.cells #[cl] 128 (0, 0))) :
    Calls Tryd.prog 119 #[.slice none 0 0, .agg ((List.range 5).map fun i => iv (nw i)).toArray, .agg #[iv 0, iv 0], iv set, ptrAt x 0, ptrAt c 0] w fun e w' => ∃ v, e = .returned (.tuple #[v, .bool (driveD b 5 [] (⟨0, 0⟩ : Span) set).2]) ∧ Below w.heap.size w w' ∧ Reads w' v 2 (driveD b 5 [] (⟨0, 0⟩ : Span) set).1 encPlace zPlace ∧ (∀ g, vblk v = some g → w.heap.size ≤ g ∧ g < w'.heap.size) := by
  subst hx hc
  simp only [ptrAt, Nat.add_zero] at *
  subst hcl
  have h5 := drive_ok hb5 a0 gx gc gm 5 (.slice none 0 0) [] nw ⟨0, 0⟩ set w ⟨by simp, left5 hset⟩ rb reads_nil hxh hch hm hla
  exact h5.mono fun e w' ⟨v, h1, h2, h3, h4⟩ => ⟨v, h1, h2, h3, fun g hg => (h4 g hg).resolve_left (fun h => by cases h)⟩
def stowD (b : DBook) (set : Int) : (List Place) × Bool :=
  (bif decide ((weightD b set) > b.most) then ([], false) else ((driveD b 5 [] (⟨0, 0⟩ : Span) set).1, (driveD b 5 [] (⟨0, 0⟩ : Span) set).2))
theorem stowD_calls (g0 : Value) (gm : Nat) (b : DBook) (set : Int) (w : World) (r0 : Reads w g0 3 b.loads encLoad zLoad) (hm : w.heap[gm]? = some (.map (ents (plL b) plKey plVal) (plL b).length)) (hla : LanesAt w) (hb5 : b.loads.length ≤ 5) (hset : 0 ≤ set ∧ set < 32) : Calls Tryd.prog 91 #[.agg #[g0, iv b.rule, iv b.most, .map (some gm)], iv set] w fun e w' => ∃ v0, e = .returned (.tuple #[v0, .bool (stowD b set).2]) ∧ Below w.heap.size w w' ∧ Reads w' v0 2 (stowD b set).1 encPlace zPlace ∧ (∀ g, vblk v0 = some g → w.heap.size ≤ g ∧ g < w'.heap.size) := by
  refine calls_of_WP (cx := cx0 w (vn [g0]) 1) (n := vn [g0]) (vs := [.g [.ref 0, .int .i64 b.rule, .int .i64 b.most, .v (.map (some gm))], .s (.int .i64 set)]) (hp := [(0, .sl .ro 61 3 b.loads encLoad zLoad), (1, mapF gm (plL b) plKey plVal), (2, .pf LanesAt (· = 0))]) (nx := 3) tt_ok Tryd.func91 rfl rfl rfl (by kernel_rfl) (HSat_args (vn_one (by simp [r0.one])) (by decide) ⟨⟨⟨fun _ => rfl, by decide, r0⟩, (Nat.le_of_ble_eq_true rfl)⟩, ⟨⟨hm, fun w1 w2 h1 hw => (hw gm rfl).trans h1, fun g hg => by cases hg; exact (Array.getElem?_eq_some_iff.1 hm).1⟩, (Nat.le_of_ble_eq_true rfl)⟩, ⟨⟨hla, fun w1 w2 h1 hw => (hw 0 rfl).trans h1, fun g hg => by cases hg; exact (Array.getElem?_eq_some_iff.1 hla).1⟩, (Nat.le_of_ble_eq_true rfl)⟩, trivial⟩) (vsOk (by kernel_rfl)) ?_
  have hl0 := Reads.len r0
  refine WP_seq (WP_region (WPO_all tt_ok (by kernel_rfl) ?_))
  refine WP_seq (WP_seq (WP_draw (by kernel_rfl) (by kernel_rfl) ?_))
  refine WPQ_run tt_ok 2 (by kernel_rfl) ?_
  refine QCALL 118 [.g [.ref 0, .int .i64 b.rule, .int .i64 b.most, .v (.map (some gm))], .s (.int .i64 set)] (.s (.int .i64 (weightD b set))) [] (by kernel_rfl) (goes_of (by kernel_rfl)) (by kernel_rfl) (by kernel_rfl) (fun _ nV w h => weightD_calls (nV 0) gm b set w (h.reads (id := 0) (kd := .ro) (e := 61) (by kernel_rfl)) (h.ents (1, mapF gm (plL b) plKey plVal) (fnd_mem (by kernel_rfl))).1 ) ?_
  refine WPQ_all tt_ok (by kernel_rfl) ?_
  refine WP_cond (decide ((weightD b set) > b.most)) (by kernel_rfl) (fun hc2 => ?_) (fun hc2 => ?_)
  · have hc2' := of_decide_eq_true hc2
    refine WP_seq (WP_region (WPO_all tt_ok (by kernel_rfl) ?_))
    refine WP_ret ?_
    exact ⟨.t [(false, [.v (.slice none 0 0)]), (false, [.bool false])], by kernel_rfl, fun nV w' h => ⟨.slice none 0 0, by rw [show stowD b set = ([], false) from by unfold stowD; simp only [hc2, cond_true, cond_false]]; rfl, h.bel, by rw [show stowD b set = ([], false) from by unfold stowD; simp only [hc2, cond_true, cond_false]]; exact reads_nil, fun g hg => by cases hg⟩⟩
  have hc2' := of_decide_eq_false hc2
  refine WP_skip ?_
  refine WP_seq (WP_region (WPO_all tt_ok (by kernel_rfl) ?_))
  refine WP_seq (WP_region (WPO_all tt_ok (by kernel_rfl) ?_))
  refine WP_seq (WP_drawH [] (by kernel_rfl) (by kernel_rfl) ?_)
  refine H_run tt_ok [0, 2, 3] (f' := 6) (by kernel_rfl) (by kernel_rfl) (by kernel_rfl) ?_
  refine H_step 1 (by kernel_rfl) (by kernel_rfl) (fun hfz cx' hx1 hx2 => ?_)
  refine CALL 120 [] (.g (arrI 5 (fun _ => 0))) [] (by kernel_rfl) (goes_of (by kernel_rfl)) (by kernel_rfl) (by kernel_rfl) (fun _ n w _ => (empty_calls w).mono fun e w' h => h) ?_
  refine WPO_end (by kernel_rfl) ⟨rfl, (hfz.fnds [5, 4, 3, 0, 1, 2] (by kernel_rfl) ⟨by kernel_rfl, by kernel_rfl, by kernel_rfl, by kernel_rfl, by kernel_rfl, by kernel_rfl, trivial⟩ (by kernel_rfl)), ?_⟩
  refine H_step 4 (by kernel_rfl) (by kernel_rfl) (fun hfz cx' hx1 hx2 => ?_)
  refine CALLSL 119 [.s (.v (.slice none 0 0)), .g (arrI 5 (fun _ => 0)), .g [.int .i64 0, .int .i64 0], .s (.int .i64 set), .s (.p 3 0), .s (.p 4 0)] (fun sv1 => .t [(false, [.v sv1]), (false, [.bool (driveD b 5 [] (⟨0, 0⟩ : Span) set).2])]) 2 (driveD b 5 [] (⟨0, 0⟩ : Span) set).1 encPlace zPlace (by decide) (by kernel_rfl) (goes_of (by kernel_rfl)) (fun _ => (by kernel_rfl)) (fun _ => (by kernel_rfl)) (fun _ _ _ => rfl) (fun nV w h => by
      obtain ⟨gx, hx1, _, hx2⟩ := h.ents (3, .box 94 [.ref 0, .int .i64 b.rule, .int .i64 b.most, .v (.map (some gm))]) (fnd_mem (by kernel_rfl))
      obtain ⟨gc, hc1, _, hc2⟩ := h.ents (4, .box 128 [.ref 5]) (fnd_mem (by kernel_rfl))
      exact drive_top hb5 (nV 0) (nV 3) (nV 4) (nV 5) gx gc gm set (fun _ => 0) w hset (h.reads (id := 0) (kd := .ro) (e := 61) (by kernel_rfl)) (h.ents (1, mapF gm (plL b) plKey plVal) (fnd_mem (by kernel_rfl))).1 (h.ents (2, .pf LanesAt (· = 0)) (fnd_mem (by kernel_rfl))).1 hx1 hc1 hx2 (h.ents (5, .clo 119 [] [.s (.p 3 0), .s (.p 4 0)]) (fnd_mem (by kernel_rfl))) hc2) (fun sv1 => ?_)
  refine WPO_end (by kernel_rfl) ⟨rfl, (hfz.fnds [5, 4, 3, 0, 1, 2] (by kernel_rfl) ⟨by kernel_rfl, by kernel_rfl, by kernel_rfl, by kernel_rfl, by kernel_rfl, by kernel_rfl, trivial⟩ (by kernel_rfl)), ?_⟩
  refine H_run tt_ok [5, 6, 7, 8] (f' := 0) (by kernel_rfl) (by kernel_rfl) (by kernel_rfl) ?_
  refine H_done (by kernel_rfl) ?_
  refine WP_ret ?_
  exact ⟨.t [(false, [.v sv1]), (false, [.bool (driveD b 5 [] (⟨0, 0⟩ : Span) set).2])], by kernel_rfl, fun nV w' h => ⟨sv1, by rw [show stowD b set = ((driveD b 5 [] (⟨0, 0⟩ : Span) set).1, (driveD b 5 [] (⟨0, 0⟩ : Span) set).2) from by unfold stowD; simp only [hc2, cond_true, cond_false]]; rfl, h.bel, by rw [show stowD b set = ((driveD b 5 [] (⟨0, 0⟩ : Span) set).1, (driveD b 5 [] (⟨0, 0⟩ : Span) set).2) from by unfold stowD; simp only [hc2, cond_true, cond_false]]; exact (slE_lt (id := 6) (v := sv1) (sz := 2) (li := (driveD b 5 [] (⟨0, 0⟩ : Span) set).1) (enc := encPlace) (z := zPlace) h (by kernel_rfl)).1, (slE_lt (id := 6) (v := sv1) (sz := 2) (li := (driveD b 5 [] (⟨0, 0⟩ : Span) set).1) (enc := encPlace) (z := zPlace) h (by kernel_rfl)).2⟩⟩
def togetherD (b : DBook) (set : Int) : Bool :=
  (stowD b set).2
theorem togetherD_calls (g0 : Value) (gm : Nat) (b : DBook) (set : Int) (w : World) (r0 : Reads w g0 3 b.loads encLoad zLoad) (hm : w.heap[gm]? = some (.map (ents (plL b) plKey plVal) (plL b).length)) (hla : LanesAt w) (hb5 : b.loads.length ≤ 5) (hset : 0 ≤ set ∧ set < 32) : Calls Tryd.prog 97 #[.agg #[g0, iv b.rule, iv b.most, .map (some gm)], iv set] w fun e w' => e = .returned (.bool (togetherD b set)) ∧ Below w.heap.size w w' := by
  refine calls_of_WP (cx := cx0 w (vn [g0]) 1) (n := vn [g0]) (vs := [.g [.ref 0, .int .i64 b.rule, .int .i64 b.most, .v (.map (some gm))], .s (.int .i64 set)]) (hp := [(0, .sl .ro 61 3 b.loads encLoad zLoad), (1, mapF gm (plL b) plKey plVal), (2, .pf LanesAt (· = 0))]) (nx := 3) tt_ok Tryd.func97 rfl rfl rfl (by kernel_rfl) (HSat_args (vn_one (by simp [r0.one])) (by decide) ⟨⟨⟨fun _ => rfl, by decide, r0⟩, (Nat.le_of_ble_eq_true rfl)⟩, ⟨⟨hm, fun w1 w2 h1 hw => (hw gm rfl).trans h1, fun g hg => by cases hg; exact (Array.getElem?_eq_some_iff.1 hm).1⟩, (Nat.le_of_ble_eq_true rfl)⟩, ⟨⟨hla, fun w1 w2 h1 hw => (hw 0 rfl).trans h1, fun g hg => by cases hg; exact (Array.getElem?_eq_some_iff.1 hla).1⟩, (Nat.le_of_ble_eq_true rfl)⟩, trivial⟩) (vsOk (by kernel_rfl)) ?_
  have hl0 := Reads.len r0
  refine WP_seq (WP_region (WPO_all tt_ok (by kernel_rfl) ?_))
  refine WP_seq (WP_region (WPO_run tt_ok 2 (by kernel_rfl) ?_))
  refine CALLR 91 [.g [.ref 0, .int .i64 b.rule, .int .i64 b.most, .v (.map (some gm))], .s (.int .i64 set)] (.t [(false, [.ref 4]), (false, [.bool (stowD b set).2])]) 65 2 (stowD b set).1 encPlace zPlace 4 (by kernel_rfl) (by kernel_rfl) (goes_of (by kernel_rfl)) (by kernel_rfl) (by kernel_rfl) (by decide) (fun _ => rfl) (fun nV w h => (stowD_calls (nV 0) gm b set w (h.reads (id := 0) (kd := .ro) (e := 61) (by kernel_rfl)) (h.ents (1, mapF gm (plL b) plKey plVal) (fnd_mem (by kernel_rfl))).1 (h.ents (2, .pf LanesAt (· = 0)) (fnd_mem (by kernel_rfl))).1 (by first | assumption | omega) (by first | assumption | omega)).mono fun e w' h1 => weak_fresh h1) ?_
  refine WPO_all tt_ok (by kernel_rfl) ?_
  refine WP_seq (WP_region (WPO_all tt_ok (by kernel_rfl) ?_))
  refine WP_ret ?_
  exact ⟨.s (.bool (stowD b set).2), by kernel_rfl, fun nV w' h => ⟨by rw [show togetherD b set = (stowD b set).2 from rfl]; rfl, h.bel⟩⟩
end Go.Proofs.YthfnedbpmdkdjaaDoor.D
namespace Go.Proofs.YthfnedbpmdkdjaaDoor.Eng
open Go Go.RowKit
set_option linter.unusedVariables false
set_option linter.unusedSimpArgs false
section
variable {P : Program} {tt : TT} {cx : Cx} {s s' : AS}
theorem Le_nilE (sz : Nat) {α : Type} (enc : α → List Value) (z : α) : Le cx s (s.add (slE (.slice none 0 0) sz ([] : List α) enc z)) := fun n a w hs =>
  ⟨_, env_add hs (upd_lt n s.nx .nilFunc) (hs.heap.add (e := slE (.slice none 0 0) sz ([] : List α) enc z) (v := .nilFunc) (Below.refl _ w) rfl ⟨reads_nil, fun g hg => (by cases hg), fun _ _ h hw => h.stab hw⟩ trivial (fun g hg => (by cases hg)) (fun g hg => (by cases hg)))⟩
end
end Go.Proofs.YthfnedbpmdkdjaaDoor.Eng
namespace Go.Proofs.YthfnedbpmdkdjaaDoor.D
open Go Go.RowKit Go.Proofs.YthfnedbpmdkdjaaDoor.Eng Go.Proofs.YthfnedbpmdkdjaaDoor.Cm
set_option linter.unusedVariables false
set_option linter.unusedSimpArgs false
set_option linter.unusedSectionVars false
theorem pow_le5 {n : Nat} (h : n ≤ 5) : (2 : Nat) ^ n ≤ 32 := by
  have : n = 0 ∨ n = 1 ∨ n = 2 ∨ n = 3 ∨ n = 4 ∨ n = 5 := by omega
  rcases this with rfl | rfl | rfl | rfl | rfl | rfl <;> decide
theorem all_pow {b : DBook} (h : b.loads.length ≤ 5) : allD b = ((2 ^ b.loads.length : Nat) : Int) - 1 := by
  unfold allD
  generalize b.loads.length = n at h
  have : n = 0 ∨ n = 1 ∨ n = 2 ∨ n = 3 ∨ n = 4 ∨ n = 5 := by omega
  rcases this with rfl | rfl | rfl | rfl | rfl | rfl <;> decide
theorem all_wrap {b : DBook} (h : b.loads.length ≤ 5) : IntKind.i64.wrap (allD b + 1) = ((2 ^ b.loads.length : Nat) : Int) := by
  have := pow_le5 h
  rw [all_pow h]
  generalize 2 ^ b.loads.length = q at *
  rw [wrapI (by omega) (by omega)]; omega
theorem or_all : ((List.range 32).all fun s : Nat => (List.range 5).all fun k : Nat => decide (0 ≤ (IntKind.i64.wrap (BitVec.ofInt IntKind.i64.bits (s : Int) ||| BitVec.ofInt IntKind.i64.bits (IntKind.i64.wrap (1 * 2 ^ (min (k : Int).toNat IntKind.i64.bits)))).toNat) ∧ (IntKind.i64.wrap (BitVec.ofInt IntKind.i64.bits (s : Int) ||| BitVec.ofInt IntKind.i64.bits (IntKind.i64.wrap (1 * 2 ^ (min (k : Int).toNat IntKind.i64.bits)))).toNat) < 32)) = true := by kernel_rfl
theorem or_in {s k : Int} (h : 0 ≤ s ∧ s < 32) (hk : 0 ≤ k ∧ k < 5) : 0 ≤ (IntKind.i64.wrap (BitVec.ofInt IntKind.i64.bits s ||| BitVec.ofInt IntKind.i64.bits (IntKind.i64.wrap (1 * 2 ^ (min k.toNat IntKind.i64.bits)))).toNat) ∧ (IntKind.i64.wrap (BitVec.ofInt IntKind.i64.bits s ||| BitVec.ofInt IntKind.i64.bits (IntKind.i64.wrap (1 * 2 ^ (min k.toNat IntKind.i64.bits)))).toNat) < 32 := by
  have h1 := List.all_eq_true.1 (List.all_eq_true.1 or_all s.toNat (List.mem_range.2 (by omega))) k.toNat (List.mem_range.2 (by omega))
  rw [show ((s.toNat : Nat) : Int) = s by omega, show ((k.toNat : Nat) : Int) = k by omega] at h1
  exact of_decide_eq_true h1
theorem longer_calls (w : World) : Calls Tryd.prog 121 #[] w fun e w' => e = .returned (.agg #[.func (.func 126) #[] #[]]) ∧ Below w.heap.size w w' := by
  refine calls_of_WP (cx := cx0 w Eng.n0 0) (n := Eng.n0) (vs := []) (hp := []) (nx := 0) tt_ok Tryd.func121 rfl rfl rfl (by kernel_rfl) (HSat0 _ _ _ _ _ _ (fun _ => rfl) (Nat.le_refl _)) (vsOk (by kernel_rfl)) ?_
  refine WP_seq (WP_region (WPO_all tt_ok (by kernel_rfl) ?_))
  refine WP_seq (WP_region (WPO_all tt_ok (by kernel_rfl) ?_))
  refine WP_ret ?_
  exact ⟨.g [.v (.func (.func 126) #[] #[])], by kernel_rfl, fun nV w' h => ⟨rfl, h.bel⟩⟩
def stowA_c1 (b : DBook) (loads : List Int) (k1 : Nat) : (Int × Int) → Bool := fun (v1_1, v1_2) => decide ((k1 : Int) < (loads.length : Int))
def stowA_b1 (b : DBook) (loads : List Int) (k1 : Nat) : (Int × Int) → Bd (Int × Int) ((List Place) × Int) := fun (v1_1, v1_2) => (bif !(withinD (loads.getD k1 0) (IntKind.i64.wrap (v1_1 + 1)) (IntKind.i64.wrap ((b.loads.length : Int) - 1))) then .ret ([], 31) else .go ((loads.getD k1 0), IntKind.i64.wrap (BitVec.ofInt IntKind.i64.bits v1_2 ||| BitVec.ofInt IntKind.i64.bits (IntKind.i64.wrap (1 * 2 ^ (min (loads.getD k1 0).toNat IntKind.i64.bits)))).toNat))
def stowA (b : DBook) (loads : List Int) : (List Place) × Int :=
  (bif (checkD b) != 0 then ([], (checkD b)) else (match loopR (stowA_c1 b loads) (stowA_b1 b loads) loads.length 0 (-1, 0) with | .brk (u1_0, u1_1) => (bif !(stowD b u1_1).2 then ([], 4) else ((stowD b u1_1).1, 0)) | .ret r => r))
theorem stowA_calls (g0 g1 : Value) (b : DBook) (loads : List Int) (w : World) (r0 : Reads w g0 3 b.loads encLoad zLoad) (r1 : Reads w g1 1 loads encI 0) (hnb : NobodyAt w) (hla : LanesAt w) : Calls Tryd.prog 36 #[.agg #[g0, iv b.rule, iv b.most], g1] w fun e w' => ∃ v0, e = .returned (.tuple #[v0, iv (stowA b loads).2]) ∧ Below w.heap.size w w' ∧ Reads w' v0 2 (stowA b loads).1 encPlace zPlace ∧ (∀ g, vblk v0 = some g → w.heap.size ≤ g ∧ g < w'.heap.size) := by
  refine calls_of_WP (cx := cx0 w (vn [g0, g1]) 2) (n := vn [g0, g1]) (vs := [.g [.ref 0, .int .i64 b.rule, .int .i64 b.most], .s (.ref 1)]) (hp := [(0, .sl .ro 61 3 b.loads encLoad zLoad), (1, .sl .ro 3 1 loads encI 0), (2, .pf NobodyAt (· = 1)), (3, .pf LanesAt (· = 0))]) (nx := 4) tt_ok Tryd.func36 rfl rfl rfl (by kernel_rfl) (HSat_args (vn_one (by simp [r0.one, r1.one])) (by decide) ⟨⟨⟨fun _ => rfl, by decide, r0⟩, (Nat.le_of_ble_eq_true rfl)⟩, ⟨⟨fun _ => rfl, by decide, r1⟩, (Nat.le_of_ble_eq_true rfl)⟩, ⟨⟨hnb, fun w1 w2 h1 hw => (hw 1 rfl).trans h1, fun g hg => by cases hg; exact (Array.getElem?_eq_some_iff.1 hnb).1⟩, (Nat.le_of_ble_eq_true rfl)⟩, ⟨⟨hla, fun w1 w2 h1 hw => (hw 0 rfl).trans h1, fun g hg => by cases hg; exact (Array.getElem?_eq_some_iff.1 hla).1⟩, (Nat.le_of_ble_eq_true rfl)⟩, trivial⟩) (vsOk (by kernel_rfl)) ?_
  have hl0 := Reads.len r0
  have hl1 := Reads.len r1
  refine WP_seq (WP_region (WPO_all tt_ok (by kernel_rfl) ?_))
  refine WP_seq (WP_seq (WP_region (WPO_run tt_ok 1 (by kernel_rfl) ?_)))
  refine CALL 66 [.g [.ref 0, .int .i64 b.rule, .int .i64 b.most]] (.s (.int .i64 (checkD b))) [] (by kernel_rfl) (goes_of (by kernel_rfl)) (by kernel_rfl) (by kernel_rfl) (fun _ nV w h => checkD_calls (nV 0) b w (h.reads (id := 0) (kd := .ro) (e := 61) (by kernel_rfl)) ) ?_
  refine WPO_all tt_ok (by kernel_rfl) ?_
  refine WP_seq (WP_region (WPO_all tt_ok (by kernel_rfl) ?_))
  refine WP_cond ((checkD b) != 0) (by kernel_rfl) (fun hc2 => ?_) (fun hc2 => ?_)
  · have hc2' := hc2; try simp only [Bool.and_eq_true, Bool.or_eq_true, Bool.and_eq_false_iff, Bool.or_eq_false_iff, Bool.not_eq_true', Bool.not_eq_false', decide_eq_true_eq, decide_eq_false_iff_not, beq_iff_eq, beq_eq_false_iff_ne, bne_iff_ne, bne_eq_false_iff_eq, ne_eq] at hc2'
    refine WP_seq (WP_region (WPO_all tt_ok (by kernel_rfl) ?_))
    refine WP_ret ?_
    exact ⟨.t [(false, [.v (.slice none 0 0)]), (false, [.int .i64 (checkD b)])], by kernel_rfl, fun nV w' h => ⟨.slice none 0 0, by rw [show stowA b loads = ([], (checkD b)) from by unfold stowA; simp only [hc2, cond_true, cond_false]]; rfl, h.bel, by rw [show stowA b loads = ([], (checkD b)) from by unfold stowA; simp only [hc2, cond_true, cond_false]]; exact reads_nil, fun g hg => by cases hg⟩⟩
  have hc2' := hc2; try simp only [Bool.and_eq_true, Bool.or_eq_true, Bool.and_eq_false_iff, Bool.or_eq_false_iff, Bool.not_eq_true', Bool.not_eq_false', decide_eq_true_eq, decide_eq_false_iff_not, beq_iff_eq, beq_eq_false_iff_ne, bne_iff_ne, bne_eq_false_iff_eq, ne_eq] at hc2'
  refine WP_skip ?_
  have hv : ValidD b := checkD_valid.1 (bne_eq_false_iff_eq.1 (by assumption))
  have hb5 := hv.n.2
  refine WP_seq (WP_region (WPO_all tt_ok (by kernel_rfl) ?_))
  refine WP_seq (WP_seq (WP_region (WPO_all tt_ok (by kernel_rfl) ?_)))
  refine WP_loopA (ρ := (List Place) × Int) (stowA_c1 b loads) (stowA_b1 b loads) loads.length (-1, 0) (fun k : Nat => (k : Int)) (fun (ci : Int) (zz : Int × Int) => ⟨54, [(20, [], .s (.int .i64 ci)), (19, [], .s (.int .i64 (loads.length : Int))), (18, [], .s (.ref 1)), (8, [], .s (.int .i64 zz.1)), (7, [], .s (.int .i64 zz.2)), (2, [], .s (.p 4 0))], [(4, .box 24 [.ref 0, .int .i64 b.rule, .int .i64 b.most]), (0, .sl .ro 61 3 b.loads encLoad zLoad), (1, .sl .ro 3 1 loads encI 0), (2, .pf NobodyAt (· = 1)), (3, .pf LanesAt (· = 0))], 5, []⟩) (fun zz : Int × Int => ⟨54, [(7, [], .s (.int .i64 zz.2)), (2, [], .s (.p 4 0))], [(4, .box 24 [.ref 0, .int .i64 b.rule, .int .i64 b.most]), (0, .sl .ro 61 3 b.loads encLoad zLoad), (1, .sl .ro 3 1 loads encI 0), (2, .pf NobodyAt (· = 1)), (3, .pf LanesAt (· = 0))], 5, []⟩) (fun (k1 : Nat) (zz : Int × Int) => (-1 ≤ zz.1 ∧ zz.1 < b.loads.length) ∧ (0 ≤ zz.2 ∧ zz.2 < 32)) ⟨by omega, by omega⟩ ⟨0, rfl, Le_sel (ts := [20, 19, 18, 8, 7, 2]) (ids := [4, 0, 1, 2, 3]) (nx := 5) (by kernel_rfl)⟩ ?_ ?_
  · intro k1 zz hn1 hp1 hi1 Q1 hq1 ho1
    obtain ⟨v1_1, v1_2⟩ := zz
    replace hp1 : (-1 ≤ v1_1 ∧ v1_1 < b.loads.length) ∧ (0 ≤ v1_2 ∧ v1_2 < 32) := hp1
    refine WP_seq (WP_region (WPO_all tt_ok (by kernel_rfl) ?_))
    refine WP_seq (WP_cond (decide ((k1 : Int) < (loads.length : Int))) (by kernel_rfl) (fun hc3 => ?_) (fun hc3 => ?_))
    rotate_left
    · refine WP_exit ?_
      show Q1 (.exit 0) _
      exact LA_exit hq1 (v1_1, v1_2) (loopR_end hi1 hc3) ⟨k1, hn1, hp1⟩ (Le_sel (ts := [7, 2]) (ids := [4, 0, 1, 2, 3]) (nx := 5) (by kernel_rfl))
    have hc3' := of_decide_eq_true hc3
    have hk1 : k1 < loads.length := by omega
    refine WP_skip ?_
    refine WP_seq (WP_block ?_)
    refine WP_seq (WP_region (IX tt_ok (k1 : Int) loads.length [] (by kernel_rfl) (fun hG => ⟨by omega, by omega⟩) ?_))
    refine WPO_all tt_ok (by kernel_rfl) ?_
    refine WP_seq (WP_seq (WP_region (WPO_run tt_ok 7 (by kernel_rfl) ?_)))
    refine CALL 89 [.s (.int .i64 (loads.getD k1 0)), .s (.int .i64 (IntKind.i64.wrap (v1_1 + 1))), .s (.int .i64 (IntKind.i64.wrap ((b.loads.length : Int) - 1)))] (.s (.bool (withinD (loads.getD k1 0) (IntKind.i64.wrap (v1_1 + 1)) (IntKind.i64.wrap ((b.loads.length : Int) - 1))))) [] (by kernel_rfl) (goes_of (by kernel_rfl)) (by kernel_rfl) (by kernel_rfl) (fun _ nV w h => withinD_calls  (loads.getD k1 0) (IntKind.i64.wrap (v1_1 + 1)) (IntKind.i64.wrap ((b.loads.length : Int) - 1)) w  ) ?_
    refine WPO_all tt_ok (by kernel_rfl) ?_
    refine WP_cond (!(withinD (loads.getD k1 0) (IntKind.i64.wrap (v1_1 + 1)) (IntKind.i64.wrap ((b.loads.length : Int) - 1)))) (by kernel_rfl) (fun hc5 => ?_) (fun hc5 => ?_)
    · have hc5' := hc5; try simp only [Bool.and_eq_true, Bool.or_eq_true, Bool.and_eq_false_iff, Bool.or_eq_false_iff, Bool.not_eq_true', Bool.not_eq_false', decide_eq_true_eq, decide_eq_false_iff_not, beq_iff_eq, beq_eq_false_iff_ne, bne_iff_ne, bne_eq_false_iff_eq, ne_eq] at hc5'
      refine WP_seq (WP_region (WPO_all tt_ok (by kernel_rfl) ?_))
      refine WP_ret ?_
      show Q1 .ret _
      refine LA_ret hq1 ?_
      have he6 := loopR_ret (r := ([], 31)) hi1 hk1 hc3 (by unfold stowA_b1; simp only [hc5, cond_true, cond_false])
      exact ⟨.t [(false, [.v (.slice none 0 0)]), (false, [.int .i64 31])], by kernel_rfl, fun nV w' h => ⟨.slice none 0 0, by rw [show stowA b loads = ([], 31) from by unfold stowA; simp only [hc2, he6, cond_true, cond_false]]; rfl, h.bel, by rw [show stowA b loads = ([], 31) from by unfold stowA; simp only [hc2, he6, cond_true, cond_false]]; exact reads_nil, fun g hg => by cases hg⟩⟩
    have hc5' := hc5; try simp only [Bool.and_eq_true, Bool.or_eq_true, Bool.and_eq_false_iff, Bool.or_eq_false_iff, Bool.not_eq_true', Bool.not_eq_false', decide_eq_true_eq, decide_eq_false_iff_not, beq_iff_eq, beq_eq_false_iff_ne, bne_iff_ne, bne_eq_false_iff_eq, ne_eq] at hc5'
    refine WP_skip ?_
    have hkb : 0 ≤ loads.getD k1 0 ∧ loads.getD k1 0 < b.loads.length := by have := (by assumption : (!withinD _ _ _) = false); simp only [withinD, Bool.not_eq_false', Bool.and_eq_true, decide_eq_true_eq] at this; rw [wrapI (by omega) (by omega), wrapI (by omega) (by omega)] at this; omega
    refine WP_region (WPO_run tt_ok 2 (by kernel_rfl) ?_)
    refine BIN .shl 3 (.const (.int .i64 1)) (.tmp 34) (.s (.int .i64 1)) (.s (.int .i64 (loads.getD k1 0))) (.s (.int .i64 (IntKind.i64.wrap (1 * 2 ^ (min (loads.getD k1 0).toNat IntKind.i64.bits))))) [] (by kernel_rfl) (by kernel_rfl) (by kernel_rfl) (fun _ => BinOk_shl (by omega)) ?_
    refine WPO_all tt_ok (by kernel_rfl) ?_
    refine WP_region (WPO_all tt_ok (by kernel_rfl) ?_)
    show Q1 .normal _
    exact LA_go hq1 (ci := IntKind.i64.wrap ((k1 : Int) + 1)) ((loads.getD k1 0), IntKind.i64.wrap (BitVec.ofInt IntKind.i64.bits v1_2 ||| BitVec.ofInt IntKind.i64.bits (IntKind.i64.wrap (1 * 2 ^ (min (loads.getD k1 0).toNat IntKind.i64.bits)))).toNat) hk1 (by show _ = ((k1 + 1 : Nat) : Int); rw [wrapI (by omega) (by omega)]; omega) (loopR_go hi1 hk1 hc3 (by unfold stowA_b1; simp only [hc5, cond_true, cond_false])) (⟨by omega, or_in hp1.2 (by omega)⟩) (Le_sel (ts := [20, 19, 18, 8, 7, 2]) (ids := [4, 0, 1, 2, 3]) (nx := 5) (by kernel_rfl))
  intro zz hR1 hP1 s' hl
  obtain ⟨u1_0, u1_1⟩ := zz
  obtain ⟨kP1, hkP1, hpP1⟩ := hP1
  replace hpP1 : (-1 ≤ u1_0 ∧ u1_0 < b.loads.length) ∧ (0 ≤ u1_1 ∧ u1_1 < 32) := hpP1
  refine WP_le hl ?_
  clear hl s'
  refine WP_seq (WP_region (WPO_run tt_ok 1 (by kernel_rfl) ?_))
  refine CALLMAP 90 [.g [.ref 0, .int .i64 b.rule, .int .i64 b.most]] (plL b) plKey plVal (fun gM1 => .g [.ref 0, .int .i64 b.rule, .int .i64 b.most, .v (.map (some gM1))]) (by kernel_rfl) (goes_of (by kernel_rfl)) (fun _ => (by kernel_rfl)) (fun _ => (by kernel_rfl)) (fun _ n n' h => by simp only [AV.c, cellsV, part1, AC.c, List.map_cons, List.map_nil, h 0 (by show 0 < 5; decide)]) (fun nV w h => opened_plL (nV 0) b w (h.reads (id := 0) (kd := .ro) (e := 61) (by kernel_rfl)) (h.ents (2, .pf NobodyAt (· = 1)) (fnd_mem (by kernel_rfl))).1 (by first | assumption | omega)) (fun gM1 => ?_)
  refine WPO_run tt_ok 1 (by kernel_rfl) ?_
  refine CALLSL 91 [.g [.ref 0, .int .i64 b.rule, .int .i64 b.most, .v (.map (some gM1))], .s (.int .i64 u1_1)] (fun sv2 => .t [(false, [.v sv2]), (false, [.bool (stowD b u1_1).2])]) 2 (stowD b u1_1).1 encPlace zPlace (by decide) (by kernel_rfl) (goes_of (by kernel_rfl)) (fun _ => (by kernel_rfl)) (fun _ => (by kernel_rfl)) (fun _ _ _ => rfl) (fun nV w h => stowD_calls (nV 0) gM1 b u1_1 w (h.reads (id := 0) (kd := .ro) (e := 61) (by kernel_rfl)) (h.ents (5, mapE gM1 (plL b) plKey plVal) (fnd_mem (by kernel_rfl))).1 (h.ents (3, .pf LanesAt (· = 0)) (fnd_mem (by kernel_rfl))).1 (by first | assumption | omega) (by first | assumption | omega)) (fun sv2 => ?_)
  refine WPO_all tt_ok (by kernel_rfl) ?_
  refine WP_seq (WP_seq (WP_region (WPO_all tt_ok (by kernel_rfl) ?_)))
  refine WP_cond (!(stowD b u1_1).2) (by kernel_rfl) (fun hc8 => ?_) (fun hc8 => ?_)
  · have hc8' := hc8; try simp only [Bool.and_eq_true, Bool.or_eq_true, Bool.and_eq_false_iff, Bool.or_eq_false_iff, Bool.not_eq_true', Bool.not_eq_false', decide_eq_true_eq, decide_eq_false_iff_not, beq_iff_eq, beq_eq_false_iff_ne, bne_iff_ne, bne_eq_false_iff_eq, ne_eq] at hc8'
    refine WP_seq (WP_region (WPO_all tt_ok (by kernel_rfl) ?_))
    refine WP_ret ?_
    exact ⟨.t [(false, [.v (.slice none 0 0)]), (false, [.int .i64 4])], by kernel_rfl, fun nV w' h => ⟨.slice none 0 0, by rw [show stowA b loads = ([], 4) from by unfold stowA; simp only [hc2, hR1, hc8, cond_true, cond_false]]; rfl, h.bel, by rw [show stowA b loads = ([], 4) from by unfold stowA; simp only [hc2, hR1, hc8, cond_true, cond_false]]; exact reads_nil, fun g hg => by cases hg⟩⟩
  have hc8' := hc8; try simp only [Bool.and_eq_true, Bool.or_eq_true, Bool.and_eq_false_iff, Bool.or_eq_false_iff, Bool.not_eq_true', Bool.not_eq_false', decide_eq_true_eq, decide_eq_false_iff_not, beq_iff_eq, beq_eq_false_iff_ne, bne_iff_ne, bne_eq_false_iff_eq, ne_eq] at hc8'
  refine WP_skip ?_
  refine WP_seq (WP_region (WPO_run tt_ok 2 (by kernel_rfl) ?_))
  refine SLEN tt_ok (.s (.v sv2)) [] (stowD b u1_1).1.length (by kernel_rfl) (fun _ n w h => by obtain ⟨A, c, hv, _⟩ := (h.ents (6, slE sv2 2 (stowD b u1_1).1 encPlace zPlace) (fnd_mem (by kernel_rfl))).1; exact ⟨A, c, hv⟩) (by kernel_rfl) ?_
  refine WPO_run tt_ok 1 (by kernel_rfl) ?_
  refine SLEN tt_ok (.s (.v sv2)) [] (stowD b u1_1).1.length (by kernel_rfl) (fun _ n w h => by obtain ⟨A, c, hv, _⟩ := (h.ents (6, slE sv2 2 (stowD b u1_1).1 encPlace zPlace) (fnd_mem (by kernel_rfl))).1; exact ⟨A, c, hv⟩) (by kernel_rfl) ?_
  refine SLVF tt_ok 6 sv2 65 2 (stowD b u1_1).1 encPlace zPlace (some 53) (by kernel_rfl) (by kernel_rfl) (fun _ => (by kernel_rfl)) (fun sv3 => ?_)
  refine WPO_all tt_ok (by kernel_rfl) ?_
  refine WP_ret ?_
  exact ⟨.t [(false, [.v sv3]), (false, [.int .i64 0])], by kernel_rfl, fun nV w' h => ⟨sv3, by rw [show stowA b loads = ((stowD b u1_1).1, 0) from by unfold stowA; simp only [hc2, hR1, hc8, cond_true, cond_false]]; rfl, h.bel, by rw [show stowA b loads = ((stowD b u1_1).1, 0) from by unfold stowA; simp only [hc2, hR1, hc8, cond_true, cond_false]]; exact (slE_lt (id := 7) (v := sv3) (sz := 2) (li := (stowD b u1_1).1) (enc := encPlace) (z := zPlace) h (by kernel_rfl)).1, (slE_lt (id := 7) (v := sv3) (sz := 2) (li := (stowD b u1_1).1) (enc := encPlace) (z := zPlace) h (by kernel_rfl)).2⟩⟩
def mostK (b : DBook) (k : Nat) : List Int := (List.range k).foldl (fun (out : List Int) (s : Nat) => bif longerD (listedD b (s : Int)) out && togetherD b (s : Int) then listedD b (s : Int) else out) []
def mostD (b : DBook) : List Int := mostK b (2 ^ b.loads.length)
theorem mostK_succ (b : DBook) (k : Nat) : mostK b (k + 1) = bif longerD (listedD b (k : Int)) (mostK b k) && togetherD b (k : Int) then listedD b (k : Int) else mostK b k := by
  unfold mostK
  rw [List.range_succ, List.foldl_append]; rfl
theorem mostK_t {b : DBook} {k : Nat} (h : (longerD (listedD b (k : Int)) (mostK b k) && togetherD b (k : Int)) = true) : listedD b (k : Int) = mostK b (k + 1) := by rw [mostK_succ, h]; rfl
theorem mostK_f {b : DBook} {k : Nat} (h : (longerD (listedD b (k : Int)) (mostK b k) && togetherD b (k : Int)) = false) : mostK b k = mostK b (k + 1) := by rw [mostK_succ, h]; rfl
theorem mostD_calls (g0 : Value) (gm : Nat) (b : DBook) (w : World) (r0 : Reads w g0 3 b.loads encLoad zLoad) (hm : w.heap[gm]? = some (.map (ents (plL b) plKey plVal) (plL b).length)) (hla : LanesAt w) (hb5 : b.loads.length ≤ 5) : Calls Tryd.prog 95 #[.agg #[g0, iv b.rule, iv b.most, .map (some gm)]] w fun e w' => ∃ v0, e = .returned (v0) ∧ Below w.heap.size w w' ∧ Reads w' v0 1 (mostD b) encI 0 ∧ (∀ g, vblk v0 = some g → w.heap.size ≤ g ∧ g < w'.heap.size) := by
  refine calls_of_WP (cx := cx0 w (vn [g0]) 1) (n := vn [g0]) (vs := [.g [.ref 0, .int .i64 b.rule, .int .i64 b.most, .v (.map (some gm))]]) (hp := [(0, .sl .ro 61 3 b.loads encLoad zLoad), (1, mapF gm (plL b) plKey plVal), (2, .pf LanesAt (· = 0))]) (nx := 3) tt_ok Tryd.func95 rfl rfl rfl (by kernel_rfl) (HSat_args (vn_one (by simp [r0.one])) (by decide) ⟨⟨⟨fun _ => rfl, by decide, r0⟩, (Nat.le_of_ble_eq_true rfl)⟩, ⟨⟨hm, fun w1 w2 h1 hw => (hw gm rfl).trans h1, fun g hg => by cases hg; exact (Array.getElem?_eq_some_iff.1 hm).1⟩, (Nat.le_of_ble_eq_true rfl)⟩, ⟨⟨hla, fun w1 w2 h1 hw => (hw 0 rfl).trans h1, fun g hg => by cases hg; exact (Array.getElem?_eq_some_iff.1 hla).1⟩, (Nat.le_of_ble_eq_true rfl)⟩, trivial⟩) (vsOk (by kernel_rfl)) ?_
  have hl0 := Reads.len r0
  have hpw := all_wrap hb5
  have hpl := pow_le5 hb5
  refine WP_seq (WP_region (WPO_all tt_ok (by kernel_rfl) ?_))
  refine WP_seq (WP_region (WPO_all tt_ok (by kernel_rfl) ?_))
  refine WP_seq (WP_toX (σ := Unit) (fun _ => ⟨33, [(5, [], .s (.ref 4)), (4, [], .s (.p 5 0)), (3, [], .s (.v (.slice none 0 0))), (1, [], .s (.p 3 0))], [(5, .box 133 [.v (.func (.func 126) #[] #[])]), (4, .clo 97 [.g [.ref 0, .int .i64 b.rule, .int .i64 b.most, .v (.map (some gm))]] []), (3, .box 94 [.ref 0, .int .i64 b.rule, .int .i64 b.most, .v (.map (some gm))]), (0, .sl .ro 61 3 b.loads encLoad zLoad), (1, mapF gm (plL b) plKey plVal), (2, .pf LanesAt (· = 0))], 6, []⟩) ?_ ?_)
  · refine WP_drawH [] (by kernel_rfl) (by kernel_rfl) ?_
    refine H_run tt_ok [1] (f' := 5) (by kernel_rfl) (by kernel_rfl) (by kernel_rfl) ?_
    refine H_mkf 2 (by kernel_rfl) (by kernel_rfl) (by kernel_rfl) (by kernel_rfl) ?_
    refine H_two 0 3 (by kernel_rfl) (by kernel_rfl) (by kernel_rfl) (fun hfz cx' hx1 hx2 => ?_) (fun hfz cx' hx1 hx2 => ?_)
    · refine CALL 121 [] (.g [.v (.func (.func 126) #[] #[])]) [] (by kernel_rfl) (goes_of (by kernel_rfl)) (by kernel_rfl) (by kernel_rfl) (fun _ n w _ => longer_calls w) ?_
      refine WPO_end (by kernel_rfl) ⟨rfl, (hfz.fnds [3, 0, 1, 2] (by kernel_rfl) ⟨by kernel_rfl, by kernel_rfl, by kernel_rfl, by kernel_rfl, trivial⟩ (by kernel_rfl)), ?_⟩
      refine H_step 3 (by kernel_rfl) (by kernel_rfl) (fun hfz cx' hx1 hx2 => ?_)
      refine WPO_all tt_ok (by kernel_rfl) ?_
      refine ⟨rfl, (hfz.fnds [3, 0, 1, 2] (by kernel_rfl) ⟨by kernel_rfl, by kernel_rfl, by kernel_rfl, by kernel_rfl, trivial⟩ (by kernel_rfl)), ?_⟩
      refine H_step 4 (by kernel_rfl) (by kernel_rfl) (fun hfz cx' hx1 hx2 => ?_)
      refine WPO_all tt_ok (by kernel_rfl) ?_
      refine ⟨rfl, (hfz.fnds [3, 0, 1, 2] (by kernel_rfl) ⟨by kernel_rfl, by kernel_rfl, by kernel_rfl, by kernel_rfl, trivial⟩ (by kernel_rfl)), ?_⟩
      refine H_run tt_ok [5] (f' := 0) (by kernel_rfl) (by kernel_rfl) (by kernel_rfl) ?_
      refine H_done (by kernel_rfl) ?_
      exact ⟨(), Le_sel (ts := [5, 4, 3, 1]) (ids := [5, 4, 3, 0, 1, 2]) (nx := 6) (by kernel_rfl)⟩
    · refine WPO_all tt_ok (by kernel_rfl) ?_
      refine ⟨rfl, (hfz.fnds [3, 0, 1, 2] (by kernel_rfl) ⟨by kernel_rfl, by kernel_rfl, by kernel_rfl, by kernel_rfl, trivial⟩ (by kernel_rfl)), ?_⟩
      refine H_step 0 (by kernel_rfl) (by kernel_rfl) (fun hfz cx' hx1 hx2 => ?_)
      refine CALL 121 [] (.g [.v (.func (.func 126) #[] #[])]) [] (by kernel_rfl) (goes_of (by kernel_rfl)) (by kernel_rfl) (by kernel_rfl) (fun _ n w _ => longer_calls w) ?_
      refine WPO_end (by kernel_rfl) ⟨rfl, (hfz.fnds [3, 0, 1, 2] (by kernel_rfl) ⟨by kernel_rfl, by kernel_rfl, by kernel_rfl, by kernel_rfl, trivial⟩ (by kernel_rfl)), ?_⟩
      refine H_step 4 (by kernel_rfl) (by kernel_rfl) (fun hfz cx' hx1 hx2 => ?_)
      refine WPO_all tt_ok (by kernel_rfl) ?_
      refine ⟨rfl, (hfz.fnds [3, 0, 1, 2] (by kernel_rfl) ⟨by kernel_rfl, by kernel_rfl, by kernel_rfl, by kernel_rfl, trivial⟩ (by kernel_rfl)), ?_⟩
      refine H_run tt_ok [5] (f' := 0) (by kernel_rfl) (by kernel_rfl) (by kernel_rfl) ?_
      refine H_done (by kernel_rfl) ?_
      exact ⟨(), Le_sel (ts := [5, 4, 3, 1]) (ids := [5, 4, 3, 0, 1, 2]) (nx := 6) (by kernel_rfl)⟩
  intro _
  refine WP_seq (WP_seq (WP_region (WPO_run tt_ok 1 (by kernel_rfl) ?_)))
  refine CALL 96 [.g [.ref 0, .int .i64 b.rule, .int .i64 b.most, .v (.map (some gm))]] (.s (.int .i64 (allD b))) [] (by kernel_rfl) (goes_of (by kernel_rfl)) (by kernel_rfl) (by kernel_rfl) (fun _ nV w h => allD_calls (nV 0) gm b w (h.reads (id := 0) (kd := .ro) (e := 61) (by kernel_rfl)) (h.ents (1, mapF gm (plL b) plKey plVal) (fnd_mem (by kernel_rfl))).1 (by first | assumption | omega)) ?_
  refine WPO_all tt_ok (by kernel_rfl) ?_
  refine WP_le (Le_nilE 1 encI 0) ?_
  refine WP_block (WP_loop (σ := Int × Value × List Int) (fun zz => ⟨33, [(14, [], .s (.int .i64 zz.1)), (13, [], .s (.int .i64 (IntKind.i64.wrap ((allD b) + 1)))), (5, [], .s (.ref 4)), (4, [], .s (.p 5 0)), (3, [], .s (.v zz.2.1)), (1, [], .s (.p 3 0))], [(6, slE zz.2.1 1 zz.2.2 encI 0), (5, .box 133 [.v (.func (.func 126) #[] #[])]), (4, .clo 97 [.g [.ref 0, .int .i64 b.rule, .int .i64 b.most, .v (.map (some gm))]] []), (3, .box 94 [.ref 0, .int .i64 b.rule, .int .i64 b.most, .v (.map (some gm))]), (0, .sl .ro 61 3 b.loads encLoad zLoad), (1, mapF gm (plL b) plKey plVal), (2, .pf LanesAt (· = 0))], 7, []⟩) (fun zz => ∃ k : Nat, k ≤ 2 ^ b.loads.length ∧ zz.1 = k ∧ zz.2.2 = mostK b k) (fun zz => 2 ^ b.loads.length - zz.1.toNat) (0, (.slice none 0 0), []) (⟨0, Nat.zero_le _, rfl, rfl⟩) (Le_sel (ts := [14, 13, 5, 4, 3, 1]) (ids := [6, 5, 4, 3, 0, 1, 2]) (nx := 7) (by kernel_rfl)) ?_)
  rintro ⟨ii, bv, bl⟩ hinv
  obtain ⟨k, hk0, hii, hbl⟩ := hinv
  simp only at hii hbl
  subst hii
  subst hbl
  refine WP_seq (WP_region (WPO_all tt_ok (by kernel_rfl) ?_))
  refine WP_seq (WP_cond (decide ((k : Int) < (IntKind.i64.wrap ((allD b) + 1)))) (by kernel_rfl) (fun hc2 => ?_) (fun hc2 => ?_))
  · have hc2' := of_decide_eq_true hc2
    rw [hpw] at hc2'
    have hk : k < 2 ^ b.loads.length := by omega
    refine WP_skip ?_
    refine WP_seq (WP_block ?_)
    refine WP_seq (WP_region (WPO_all tt_ok (by kernel_rfl) ?_))
    refine WP_seq (WP_region (WPO_run tt_ok 2 (by kernel_rfl) ?_))
    refine CALLSL 102 [.g [.ref 0, .int .i64 b.rule, .int .i64 b.most, .v (.map (some gm))], .s (.int .i64 (k : Int))] (fun sv1 => .s (.v sv1)) 1 (listedD b (k : Int)) encI 0 (by decide) (by kernel_rfl) (goes_of (by kernel_rfl)) (fun _ => (by kernel_rfl)) (fun _ => (by kernel_rfl)) (fun _ _ _ => rfl) (fun nV w h => listedD_calls (nV 0) gm b (k : Int) w (h.reads (id := 0) (kd := .ro) (e := 61) (by kernel_rfl)) (h.ents (1, mapF gm (plL b) plKey plVal) (fnd_mem (by kernel_rfl))).1 (by first | assumption | omega)) (fun sv1 => ?_)
    refine WPO_all tt_ok (by kernel_rfl) ?_
    refine WP_seq (WP_region (WPO_run tt_ok 4 (by kernel_rfl) ?_))
    refine CALL 126 [.s (.v sv1), .s (.v bv)] (.s (.bool (longerD (listedD b (k : Int)) (mostK b k)))) [] (by kernel_rfl) (goes_of (by kernel_rfl)) (by kernel_rfl) (by kernel_rfl) (fun _ nV w h => longerD_calls sv1 bv (listedD b (k : Int)) (mostK b k) w (h.ents (7, slE sv1 1 (listedD b (k : Int)) encI 0) (fnd_mem (by kernel_rfl))).1 (h.ents (6, slE bv 1 (mostK b k) encI 0) (fnd_mem (by kernel_rfl))).1 ) ?_
    refine WPO_run tt_ok 3 (by kernel_rfl) ?_
    refine CALL 97 [.g [.ref 0, .int .i64 b.rule, .int .i64 b.most, .v (.map (some gm))], .s (.int .i64 (k : Int))] (.s (.bool (togetherD b (k : Int)))) [((longerD (listedD b (k : Int)) (mostK b k)), true)] (by kernel_rfl) (goes_of (by kernel_rfl)) (by kernel_rfl) (by kernel_rfl) (fun _ nV w h => togetherD_calls (nV 0) gm b (k : Int) w (h.reads (id := 0) (kd := .ro) (e := 61) (by kernel_rfl)) (h.ents (1, mapF gm (plL b) plKey plVal) (fnd_mem (by kernel_rfl))).1 (h.ents (2, .pf LanesAt (· = 0)) (fnd_mem (by kernel_rfl))).1 (by first | assumption | omega) (by first | assumption | omega)) ?_
    refine WPO_all tt_ok (by kernel_rfl) ?_
    refine WP_cond ((longerD (listedD b (k : Int)) (mostK b k)) && (togetherD b (k : Int))) (by kernel_rfl) (fun hc4 => ?_) (fun hc4 => ?_)
    · have hc4' := hc4; try simp only [Bool.and_eq_true, Bool.or_eq_true, Bool.and_eq_false_iff, Bool.or_eq_false_iff, Bool.not_eq_true', Bool.not_eq_false', decide_eq_true_eq, decide_eq_false_iff_not, beq_iff_eq, beq_eq_false_iff_ne, bne_iff_ne, bne_eq_false_iff_eq, ne_eq] at hc4'
      refine WP_region (WPO_all tt_ok (by kernel_rfl) ?_)
      refine WP_region (WPO_all tt_ok (by kernel_rfl) ?_)
      refine ⟨(IntKind.i64.wrap ((k : Int) + 1), sv1, (listedD b (k : Int))), ?_, ?_, Le_ren [(6, 7)] ⟨by kernel_rfl, by kernel_rfl, by kernel_rfl, by kernel_rfl, by kernel_rfl, by kernel_rfl, by kernel_rfl, trivial⟩ ⟨by kernel_rfl, rfl, by kernel_rfl, by kernel_rfl, rfl, by kernel_rfl, by kernel_rfl, rfl, by kernel_rfl, by kernel_rfl, rfl, by kernel_rfl, by kernel_rfl, rfl, by kernel_rfl, by kernel_rfl, rfl, by kernel_rfl, trivial⟩ (by kernel_rfl) (by kernel_rfl) (rnm_id (m := 1) (by kernel_rfl)) (by show 1 ≤ 7; decide) (by kernel_rfl) (by kernel_rfl)⟩
      · refine ⟨k + 1, by omega, by simp only; rw [wrapI (by omega) (by omega)]; rfl, ?_⟩
        first | exact mostK_t (by assumption) | exact mostK_f (by assumption)
      · simp only
        rw [wrapI (by omega) (by omega)]
        omega
    have hc4' := hc4; try simp only [Bool.and_eq_true, Bool.or_eq_true, Bool.and_eq_false_iff, Bool.or_eq_false_iff, Bool.not_eq_true', Bool.not_eq_false', decide_eq_true_eq, decide_eq_false_iff_not, beq_iff_eq, beq_eq_false_iff_ne, bne_iff_ne, bne_eq_false_iff_eq, ne_eq] at hc4'
    refine WP_skip ?_
    refine WP_region (WPO_all tt_ok (by kernel_rfl) ?_)
    refine ⟨(IntKind.i64.wrap ((k : Int) + 1), bv, mostK b k), ?_, ?_, Le_sel (ts := [14, 13, 5, 4, 3, 1]) (ids := [6, 5, 4, 3, 0, 1, 2]) (nx := 7) (by kernel_rfl)⟩
    · refine ⟨k + 1, by omega, by simp only; rw [wrapI (by omega) (by omega)]; rfl, ?_⟩
      first | exact mostK_t (by assumption) | exact mostK_f (by assumption)
    · simp only
      rw [wrapI (by omega) (by omega)]
      omega
  have hc2' := of_decide_eq_false hc2
  rw [hpw] at hc2'
  obtain rfl : k = 2 ^ b.loads.length := by omega
  refine WP_exit ?_
  refine WP_seq (WP_region (WPO_all tt_ok (by kernel_rfl) ?_))
  refine WP_ret ?_
  exact ⟨.s (.v bv), by kernel_rfl, fun nV w' h => ⟨bv, rfl, h.bel, by rw [show mostD b = (mostK b (2 ^ b.loads.length)) from rfl]; exact (slE_lt (id := 6) (v := bv) (sz := 1) (li := (mostK b (2 ^ b.loads.length))) (enc := encI) (z := 0) h (by kernel_rfl)).1, (slE_lt (id := 6) (v := bv) (sz := 1) (li := (mostK b (2 ^ b.loads.length))) (enc := encI) (z := 0) h (by kernel_rfl)).2⟩⟩
def mostA (b : DBook) : (List Int) × Int :=
  (bif (checkD b) != 0 then ([], (checkD b)) else ((mostD b), 0))
theorem mostA_calls (g0 : Value) (b : DBook) (w : World) (r0 : Reads w g0 3 b.loads encLoad zLoad) (hnb : NobodyAt w) (hla : LanesAt w) : Calls Tryd.prog 45 #[.agg #[g0, iv b.rule, iv b.most]] w fun e w' => ∃ v0, e = .returned (.tuple #[v0, iv (mostA b).2]) ∧ Below w.heap.size w w' ∧ Reads w' v0 1 (mostA b).1 encI 0 ∧ (∀ g, vblk v0 = some g → w.heap.size ≤ g ∧ g < w'.heap.size) := by
  refine calls_of_WP (cx := cx0 w (vn [g0]) 1) (n := vn [g0]) (vs := [.g [.ref 0, .int .i64 b.rule, .int .i64 b.most]]) (hp := [(0, .sl .ro 61 3 b.loads encLoad zLoad), (1, .pf NobodyAt (· = 1)), (2, .pf LanesAt (· = 0))]) (nx := 3) tt_ok Tryd.func45 rfl rfl rfl (by kernel_rfl) (HSat_args (vn_one (by simp [r0.one])) (by decide) ⟨⟨⟨fun _ => rfl, by decide, r0⟩, (Nat.le_of_ble_eq_true rfl)⟩, ⟨⟨hnb, fun w1 w2 h1 hw => (hw 1 rfl).trans h1, fun g hg => by cases hg; exact (Array.getElem?_eq_some_iff.1 hnb).1⟩, (Nat.le_of_ble_eq_true rfl)⟩, ⟨⟨hla, fun w1 w2 h1 hw => (hw 0 rfl).trans h1, fun g hg => by cases hg; exact (Array.getElem?_eq_some_iff.1 hla).1⟩, (Nat.le_of_ble_eq_true rfl)⟩, trivial⟩) (vsOk (by kernel_rfl)) ?_
  have hl0 := Reads.len r0
  refine WP_seq (WP_region (WPO_all tt_ok (by kernel_rfl) ?_))
  refine WP_seq (WP_seq (WP_region (WPO_run tt_ok 1 (by kernel_rfl) ?_)))
  refine CALL 66 [.g [.ref 0, .int .i64 b.rule, .int .i64 b.most]] (.s (.int .i64 (checkD b))) [] (by kernel_rfl) (goes_of (by kernel_rfl)) (by kernel_rfl) (by kernel_rfl) (fun _ nV w h => checkD_calls (nV 0) b w (h.reads (id := 0) (kd := .ro) (e := 61) (by kernel_rfl)) ) ?_
  refine WPO_all tt_ok (by kernel_rfl) ?_
  refine WP_seq (WP_region (WPO_all tt_ok (by kernel_rfl) ?_))
  refine WP_cond ((checkD b) != 0) (by kernel_rfl) (fun hc2 => ?_) (fun hc2 => ?_)
  · have hc2' := hc2; try simp only [Bool.and_eq_true, Bool.or_eq_true, Bool.and_eq_false_iff, Bool.or_eq_false_iff, Bool.not_eq_true', Bool.not_eq_false', decide_eq_true_eq, decide_eq_false_iff_not, beq_iff_eq, beq_eq_false_iff_ne, bne_iff_ne, bne_eq_false_iff_eq, ne_eq] at hc2'
    refine WP_seq (WP_region (WPO_all tt_ok (by kernel_rfl) ?_))
    refine WP_ret ?_
    exact ⟨.t [(false, [.v (.slice none 0 0)]), (false, [.int .i64 (checkD b)])], by kernel_rfl, fun nV w' h => ⟨.slice none 0 0, by rw [show mostA b = ([], (checkD b)) from by unfold mostA; simp only [hc2, cond_true, cond_false]]; rfl, h.bel, by rw [show mostA b = ([], (checkD b)) from by unfold mostA; simp only [hc2, cond_true, cond_false]]; exact reads_nil, fun g hg => by cases hg⟩⟩
  have hc2' := hc2; try simp only [Bool.and_eq_true, Bool.or_eq_true, Bool.and_eq_false_iff, Bool.or_eq_false_iff, Bool.not_eq_true', Bool.not_eq_false', decide_eq_true_eq, decide_eq_false_iff_not, beq_iff_eq, beq_eq_false_iff_ne, bne_iff_ne, bne_eq_false_iff_eq, ne_eq] at hc2'
  refine WP_skip ?_
  have hv : ValidD b := checkD_valid.1 (bne_eq_false_iff_eq.1 (by assumption))
  have hb5 := hv.n.2
  refine WP_seq (WP_region (WPO_run tt_ok 1 (by kernel_rfl) ?_))
  refine CALLMAP 90 [.g [.ref 0, .int .i64 b.rule, .int .i64 b.most]] (plL b) plKey plVal (fun gM1 => .g [.ref 0, .int .i64 b.rule, .int .i64 b.most, .v (.map (some gM1))]) (by kernel_rfl) (goes_of (by kernel_rfl)) (fun _ => (by kernel_rfl)) (fun _ => (by kernel_rfl)) (fun _ n n' h => by simp only [AV.c, cellsV, part1, AC.c, List.map_cons, List.map_nil, h 0 (by show 0 < 4; decide)]) (fun nV w h => opened_plL (nV 0) b w (h.reads (id := 0) (kd := .ro) (e := 61) (by kernel_rfl)) (h.ents (1, .pf NobodyAt (· = 1)) (fnd_mem (by kernel_rfl))).1 (by first | assumption | omega)) (fun gM1 => ?_)
  refine CALLSL 95 [.g [.ref 0, .int .i64 b.rule, .int .i64 b.most, .v (.map (some gM1))]] (fun sv2 => .s (.v sv2)) 1 (mostD b) encI 0 (by decide) (by kernel_rfl) (goes_of (by kernel_rfl)) (fun _ => (by kernel_rfl)) (fun _ => (by kernel_rfl)) (fun _ _ _ => rfl) (fun nV w h => mostD_calls (nV 0) gM1 b w (h.reads (id := 0) (kd := .ro) (e := 61) (by kernel_rfl)) (h.ents (4, mapE gM1 (plL b) plKey plVal) (fnd_mem (by kernel_rfl))).1 (h.ents (2, .pf LanesAt (· = 0)) (fnd_mem (by kernel_rfl))).1 (by first | assumption | omega)) (fun sv2 => ?_)
  refine WPO_all tt_ok (by kernel_rfl) ?_
  refine WP_ret ?_
  exact ⟨.t [(false, [.v sv2]), (false, [.int .i64 0])], by kernel_rfl, fun nV w' h => ⟨sv2, by rw [show mostA b = ((mostD b), 0) from by unfold mostA; simp only [hc2, cond_true, cond_false]]; rfl, h.bel, by rw [show mostA b = ((mostD b), 0) from by unfold mostA; simp only [hc2, cond_true, cond_false]]; exact (slE_lt (id := 5) (v := sv2) (sz := 1) (li := (mostD b)) (enc := encI) (z := 0) h (by kernel_rfl)).1, (slE_lt (id := 5) (v := sv2) (sz := 1) (li := (mostD b)) (enc := encI) (z := 0) h (by kernel_rfl)).2⟩⟩
end Go.Proofs.YthfnedbpmdkdjaaDoor.D
namespace Go.Proofs.YthfnedbpmdkdjaaDoor.Eng
open Go Go.RowKit
set_option linter.unusedVariables false
set_option linter.unusedSimpArgs false
section
variable {P : Program} {tt : TT} {cx : Cx} {s s' : AS} {Q : Exit → AS → Prop} {ops : Array Oper} {l : List Oper}
theorem run_eq_nil (hT : TTok P tt) {t e : TypeId} (ht : isSlK tt t e = true) (A : Option Addr) (k c : Nat) (d : Nat) (w : World) : (Op.equalIn (d + 1) t (.slice A k c) (.slice none 0 0)).run P w = .ok A.isNone w := by
  obtain ⟨tti, htt, htd⟩ := Option.map_eq_some_iff.1 (isSlK_spec ht)
  obtain ⟨F⟩ := hT.get htt
  have hd : F.desc = .slice e := by
    have := F.td
    rw [htd] at this
    cases hd : F.desc <;> rw [hd] at this <;> simp only [tdOf] at this <;> first
      | (cases this; done)
      | (injection this with h; rw [h])
  unfold Op.equalIn
  simp only [Sem.run_bind, run_underlying F.hdesc, hd, Result.andThen_ok]
  cases A <;> rfl
theorem NILQ (hT : TTok P tt) (id t : Nat) (x y : Operand) (kd : SK) (e : TypeId) (sz : Nat) {α : Type} (li : List α) (enc : α → List Value) (z : α) (h : (binA ops s l).map (fun z => (z.1, z.2.1, z.2.2.1, z.2.2.2.1, z.2.2.2.2.1, z.2.2.2.2.2.1, z.2.2.2.2.2.2.2.2)) = some (.eql, t, x, y, .s (.ref id), .s (.v (.slice none 0 0)), []))
    (ht : isSlK tt t e = true) (hf : fnd s.hp id = some (.sl kd e sz li enc z)) (hp : ∀ q : Bool, (binP ops s l (.s (.bool q))).isSome = true) (hK : ∀ q : Bool, (q = true → li = []) → WPO P cx ops l.tail ((binP ops s l (.s (.bool q))).getD s) Q) : WPO P cx ops l s Q := by
  obtain ⟨⟨op', t', x', y', u', v', G', d, T⟩, hr', he⟩ := Option.map_eq_some_iff.1 h
  simp only [Prod.mk.injEq] at he
  obtain ⟨rfl, rfl, rfl, rfl, rfl, rfl, rfl⟩ := he
  obtain ⟨o, rest, t'', rfl, ho, hg, hu, hv, hGT, rfl⟩ := binA_spec hr'
  intro n a w hs
  obtain ⟨A, c, hn, _, _, hA⟩ := sl_addr hs.heap hf
  obtain ⟨s', hs'⟩ := Option.isSome_iff_exists.1 (hp A.isNone)
  have hq : A.isNone = true → li = [] := fun hnone => by
    cases li with
    | nil => rfl
    | cons y r => obtain ⟨ad, rfl⟩ := hA (by simp); cases hnone
  have hk := hK A.isNone hq
  rw [hs'] at hk
  simp only [binP, hr'] at hs'
  have hH : Holds a [] := fun x hx => by cases hx
  obtain ⟨e1, _⟩ := ev_sound hs.env hH hu
  obtain ⟨e2, _⟩ := ev_sound hs.env hH hv
  refine wp_value ((gTag_sound hs hg).2 hH) (v := .bool A.isNone) ?_ (hk _ _ _ (put_sat hs hs' (fun _ => ⟨rfl, trivial⟩) (fun hn => absurd hH hn)))
  unfold execOp
  rw [ho]
  simp only [e1, e2, AV.c, AC.c, hn]
  rw [Sem.run_bind]
  have hg0 : (eqGuard .eql t' x' y' (.slice A li.length c) (.slice none 0 0)).run P w = .ok () w := rfl
  have hr : (binOp .eql t' (.slice A li.length c) (.slice none 0 0)).run P w = .ok (.bool A.isNone) w := by
    unfold binOp
    simp only [Sem.run_bind, Op.equal]
    rw [show Op.maxDepth = 9999 + 1 from rfl, run_eq_nil hT ht]
    rfl
  rw [Sem.run_bind, hg0]
  simp only [Result.andThen_ok]
  rw [hr]
  rfl
end
end Go.Proofs.YthfnedbpmdkdjaaDoor.Eng
namespace Go.Proofs.YthfnedbpmdkdjaaDoor.Eng
open Go Go.RowKit
set_option linter.unusedVariables false
set_option linter.unusedSimpArgs false
def estA (s : AS) : List Oper → Option (Nat × Int × Nat × Nat × AV × TypeId)
  | o :: _ => match o.op, o.guard, o.dst with
    | .store t x v, none, none => match ev s [] x, ev s [] v with
      | some (.s (.ep id i sz off)), some v => some (id, i, sz, off, v, t)
      | _, _ => none
    | _, _, _ => none
  | [] => none
theorem flat_cut {α : Type} {enc : α → List Value} {li : List α} {i : Nat} (z : α) (h : i < li.length) : flat li enc = flat (li.take i) enc ++ (enc (li.getD i z) ++ flat (li.drop (i + 1)) enc) := by
  have e : li = li.take i ++ (li.getD i z :: li.drop (i + 1)) := by
    rw [List.getD_eq_getElem?_getD, List.getElem?_eq_getElem h]
    simp
  conv => lhs; rw [e]
  unfold flat
  rw [List.flatMap_append, List.flatMap_cons]
theorem flat_lenE {α : Type} {enc : α → List Value} {sz : Nat} (h : ∀ y, (enc y).length = sz) (li : List α) : (flat li enc).length = li.length * sz := by
  unfold flat
  induction li with
  | nil => simp
  | cons x r ih => rw [List.flatMap_cons, List.length_append, ih, h, List.length_cons, Nat.add_mul]; omega
theorem cut3 (A B C vs : List Value) (a sz off : Nat) (ha : A.length = a) (hb : B.length = sz) (ho : off + vs.length ≤ sz) : (A ++ (B ++ C)).take (a + off) ++ vs ++ (A ++ (B ++ C)).drop (a + off + vs.length) = A ++ ((B.take off ++ vs ++ B.drop (off + vs.length)) ++ C) := by
  have h1 : (A ++ (B ++ C)).take (a + off) = A ++ B.take off := by
    rw [List.take_append, ha, List.take_of_length_le (by omega), show a + off - a = off by omega, List.take_append_of_le_length (by omega)]
  have h2 : (A ++ (B ++ C)).drop (a + off + vs.length) = B.drop (off + vs.length) ++ C := by
    rw [List.drop_append, ha, List.drop_eq_nil_of_le (by omega), List.nil_append, show a + off + vs.length - a = off + vs.length by omega, List.drop_append_of_le_length (by omega)]
  rw [h1, h2]
  simp only [List.append_assoc]
theorem flat_set {α : Type} {enc : α → List Value} {sz : Nat} (hs : ∀ y, (enc y).length = sz) {li : List α} {i off : Nat} (z y : α) (vs rest : List Value) (h : i < li.length) (ho : off + vs.length ≤ sz)
    (hy : enc y = (enc (li.getD i z)).take off ++ vs ++ (enc (li.getD i z)).drop (off + vs.length)) : (flat li enc ++ rest).take (i * sz + off) ++ vs ++ (flat li enc ++ rest).drop (i * sz + off + vs.length) = flat (li.set i y) enc ++ rest := by
  have hA : (flat (li.take i) enc).length = i * sz := by rw [flat_lenE hs, List.length_take, Nat.min_eq_left (by omega)]
  have e2 : flat (li.set i y) enc = flat (li.take i) enc ++ (enc y ++ flat (li.drop (i + 1)) enc) := by
    have e : li.set i y = li.take i ++ (y :: li.drop (i + 1)) := by rw [List.set_eq_take_append_cons_drop, if_pos h]
    rw [e]
    unfold flat
    rw [List.flatMap_append, List.flatMap_cons]
  have h3 := cut3 (flat (li.take i) enc) (enc (li.getD i z)) (flat (li.drop (i + 1)) enc ++ rest) vs (i * sz) sz off hA (hs _) ho
  rw [flat_cut z h, e2, hy]
  simp only [List.append_assoc] at h3 ⊢
  exact h3
section
variable {P : Program} {tt : TT} {cx : Cx} {s s' : AS} {Q : Exit → AS → Prop} {ops : Array Oper} {l : List Oper}
theorem EST (hT : TTok P tt) (id : Nat) (i : Int) (sz off : Nat) (e t : TypeId) {α : Type} (li : List α) (enc : α → List Value) (z y : α) (v : AV) (h : estA s l = some (id, i, sz, off, v, t)) (hf : fnd s.hp id = some (.sl .own e sz li enc z))
    (hb : (v.good && ones v.cells && Nat.ble (off + v.cells.length) sz && Nat.ble 1 v.cells.length) = true) (hszt : (tyL tt t).map (·.size) = some v.cells.length) (hi : 0 ≤ i ∧ i < (li.length : Int))
    (hy : ∀ n, enc y = (enc (li.getD i.toNat z)).take off ++ v.cells.map (AC.c n) ++ (enc (li.getD i.toNat z)).drop (off + v.cells.length)) (hK : WPO P cx ops l.tail { s with hp := rep s.hp id (.sl .own e sz (li.set i.toNat y) enc z) } Q) : WPO P cx ops l s Q := by
  cases l with
  | nil => cases h
  | cons o rest =>
    simp only [estA] at h
    split at h <;> try (cases h; done)
    rename_i t0 x v0 ho hg hd
    split at h <;> try (cases h; done)
    rename_i id' i' sz' off' v' hx hv
    simp only [Option.some.injEq, Prod.mk.injEq] at h
    obtain ⟨rfl, rfl, rfl, rfl, rfl, rfl⟩ := h
    simp only [Bool.and_eq_true] at hb
    obtain ⟨⟨⟨hb1, hb2⟩, hb3⟩, hb4⟩ := hb
    have h3 := Nat.le_of_ble_eq_true hb3
    have h4 := Nat.le_of_ble_eq_true hb4
    obtain ⟨ti, hti, htz⟩ := Option.map_eq_some_iff.1 hszt
    obtain ⟨F⟩ := hT.get hti
    intro n a w hs
    have hw : Region.wanted o (yielded ops a.tmps) = true := by simp [Region.wanted, hg]
    have hH : Holds a [] := fun x hx => by cases hx
    obtain ⟨e1, _⟩ := ev_sound hs.env hH hx
    obtain ⟨e3, e4⟩ := ev_sound hs.env hH hv
    obtain ⟨henc, hokg, hlen, hown⟩ := hs.heap.ents _ (fnd_mem hf)
    have hin : i'.toNat < li.length := by omega
    rcases hown with ⟨_, h0⟩ | ⟨g, cap, cur, hvn, _, hheap, hnc, hcm, hcs, htk⟩
    · omega
    have hok : cx.ok g := hokg g (by rw [hvn]; rfl)
    have hcur : cur.toList = flat li enc ++ cur.toList.drop (li.length * sz') := by rw [← htk, List.take_append_drop]
    have hvl : (v'.cells.map (AC.c n)).length = v'.cells.length := List.length_map _
    have hin2 : (i'.toNat + 1) * sz' ≤ li.length * sz' := Nat.mul_le_mul_right _ hin
    have hin3 : li.length * sz' ≤ cap * sz' := Nat.mul_le_mul_right _ hnc
    rw [Nat.add_mul, Nat.one_mul] at hin2
    have hce : (v'.c n).cells = cellsV n v'.cells := cells_c hs.heap.one hb1
    have hrun := run_storeCells_at P g (i'.toNat * sz' + off') e (v'.cells.map (AC.c n)) 0 cur w hheap (by simp; omega) (ones_spec hs.heap.one hb2)
    obtain ⟨cur', hc'⟩ : ∃ c', c' = (cur.toList.take (i'.toNat * sz' + off' + 0) ++ v'.cells.map (AC.c n) ++ cur.toList.drop (i'.toNat * sz' + off' + 0 + (v'.cells.map (AC.c n)).length)).toArray := ⟨_, rfl⟩
    rw [← hc'] at hrun
    have hnewl : cur'.toList = flat (li.set i'.toNat y) enc ++ cur.toList.drop (li.length * sz') := by
      rw [hc']
      simp only [Nat.add_zero]
      conv => lhs; rw [hcur]
      exact flat_set henc z y _ _ hin (by rw [hvl]; exact h3) (by rw [hvl]; exact hy n)
    have hsize : cur'.size = cap * sz' := by
      have h9 : cur.toList.length = cap * sz' := by rw [Array.length_toList, hcs]
      rw [← Array.length_toList, hnewl, List.length_append, flat_lenE henc, List.length_set, List.length_drop, h9]; omega
    have hfl : (flat (li.set i'.toNat y) enc).length = li.length * sz' := by rw [flat_lenE henc, List.length_set]
    have hsat : (HE.sl .own e sz' (li.set i'.toNat y) enc z).sat n cx.ok (w.setRow g cur') (n id') := by
      refine ⟨henc, hokg, by rw [hfl, List.length_set], .inr ⟨g, cap, cur', by rw [List.length_set]; exact hvn, Nat.zero_le _, setRow_heap w g _ _ e _ hheap, by rw [List.length_set]; exact hnc, hcm, hsize, ?_⟩⟩
      rw [hnewl, List.length_set, ← hfl, List.take_left]
    have hwr := hs.heap.write (w' := w.setRow g cur') hf rfl (g := g) (by simp only [HE.foot, hvn, vblk]) (e := .sl .own e sz' (li.set i'.toNat y) enc z) rfl (fun _ => rfl) (by show li.length ≤ (li.set i'.toNat y).length; rw [List.length_set]; exact Nat.le_refl _) hok
      (fun k hk => setRow_other w g k _ hk) (setRow_size _ _ _) rfl rfl rfl hsat trivial
    have hst : Sat cx n { s with hp := rep s.hp id' (.sl .own e sz' (li.set i'.toNat y) enc z) } a (w.setRow g cur') := by
      refine env_hp hs ⟨Nat.le_refl _, fun i2 _ e' he' => ?_⟩ hwr
      by_cases hid : i2 = id'
      · subst hid
        have : fnd (rep s.hp i2 (.sl .own e sz' (li.set i'.toNat y) enc z)) i2 = some _ := fnd_rep_eq hf
        rw [this] at he'
        cases he'
        exact ⟨_, hf, by show li.length ≤ (li.set i'.toNat y).length; rw [List.length_set]; exact Nat.le_refl _⟩
      · exact ⟨e', by rw [← fnd_rep_ne (e := .sl .own e sz' (li.set i'.toNat y) enc z) hid]; exact he', Nat.le_refl _⟩
    refine wp_skip1 hw (w' := w.setRow g cur') ?_ (hK _ _ _ (by rw [hd]; exact hst))
    unfold execOp
    rw [ho]
    have e1' : a.eval x = .pointer (some ⟨g, i'.toNat * sz' + off', none⟩) := by rw [e1]; simp only [AV.c, AC.c, hvn, elAt, add_pl, Nat.zero_add]
    simp only [Instr.storeAt, e1', e3, Instr.sureAddr, Sem.run_bind, Sem.run_pure, Result.andThen_ok, storeVar, run_sizeOf' F, hce, htz]
    rw [if_neg (by simp [cellsV])]
    have : (cellsV n v'.cells).toList = v'.cells.map (AC.c n) := by simp [cellsV]
    rw [this, hrun]
    rfl
end
end Go.Proofs.YthfnedbpmdkdjaaDoor.Eng
namespace Go.Proofs.YthfnedbpmdkdjaaDoor.Eng
open Go Go.RowKit
set_option linter.unusedVariables false
set_option linter.unusedSimpArgs false
def mksA (s : AS) : List Oper → Option (TypeId × Int × Int × Option Tmp)
  | o :: _ => match o.op, o.guard with
    | .makeSlice t a b, none => match ev s [] a, ev s [] b with
      | some (.s (.int _ x)), some (.s (.int _ y)) => some (t, x, y, o.dst)
      | _, _ => none
    | _, _ => none
  | [] => none
theorem flat_one {α : Type} {enc : α → List Value} {z : α} {v : Value} (h : enc z = [v]) (n : Nat) : flat (List.replicate n z) enc = List.replicate n v := by
  unfold flat
  induction n with
  | zero => rfl
  | succ n ih => rw [List.replicate_succ, List.flatMap_cons, ih, h]; rfl
section
variable {P : Program} {tt : TT} {cx : Cx} {s s' : AS} {Q : Exit → AS → Prop} {ops : Array Oper} {l : List Oper}
theorem MKS (hT : TTok P tt) (t e : TypeId) (x : Int) (d : Option Tmp) {α : Type} (enc : α → List Value) (z : α) (v : Value) (h : mksA s l = some (t, x, x, d)) (ht : isSlK tt t e = true) (hz : enc z = [v]) (henc : ∀ y, (enc y).length = 1)
    (hi : (tyL tt e).map (fun i => (i.size, i.zero.cells, Nat.ble i.bytes 64)) = some (1, #[v], true)) (hx : 0 ≤ x ∧ x ≤ 1000000)
    (hp : ((s.add (.sl .own e 1 (List.replicate x.toNat z) enc z)).put d [] (.s (.ref s.nx))).isSome = true) (hK : WPO P cx ops l.tail (((s.add (.sl .own e 1 (List.replicate x.toNat z) enc z)).put d [] (.s (.ref s.nx))).getD s) Q) : WPO P cx ops l s Q := fun n a w hs => by
  cases l with
  | nil => cases h
  | cons o rest =>
    obtain ⟨s', hs'⟩ := Option.isSome_iff_exists.1 hp
    rw [hs'] at hK
    simp only [mksA] at h
    split at h <;> try (cases h; done)
    rename_i t' a' b' ho hg
    split at h <;> try (cases h; done)
    rename_i k1 x1 k2 x2 ha hb
    simp only [Option.some.injEq, Prod.mk.injEq] at h
    obtain ⟨rfl, h1, h2, rfl⟩ := h
    rw [h1] at ha
    rw [h2] at hb
    have hH : Holds a [] := fun x hx => by cases hx
    obtain ⟨e1, _⟩ := ev_sound hs.env hH ha
    obtain ⟨e2, _⟩ := ev_sound hs.env hH hb
    obtain ⟨tti, htt, htd⟩ := Option.map_eq_some_iff.1 (isSlK_spec ht)
    obtain ⟨F⟩ := hT.get htt
    have hd : F.desc = .slice e := by
      have := F.td
      rw [htd] at this
      cases hd : F.desc <;> rw [hd] at this <;> simp only [tdOf] at this <;> first
        | (cases this; done)
        | (injection this with h; rw [h])
    obtain ⟨ei, hei, he⟩ := Option.map_eq_some_iff.1 hi
    simp only [Prod.mk.injEq] at he
    obtain ⟨he1, he2, he3⟩ := he
    have hby := Nat.le_of_ble_eq_true he3
    obtain ⟨G⟩ := hT.get hei
    have hgb : G.info.bytes = ei.bytes := G.bytes
    have hgs : G.info.size = ei.size := G.size
    have hmul : (G.info.bytes : Int) * x ≤ 281474976710656 := by
      rw [hgb]
      have h1 : (ei.bytes : Int) * x ≤ 64 * x := Int.mul_le_mul_of_nonneg_right (by omega) hx.1
      omega
    have hr := run_make (P := P) w t' e G.info ei.zero (by rw [F.hdesc, hd]) G.hinfo G.zero k1 k2 x x hx.1 (Int.le_refl _) hmul (by omega)
    have hrun : (execOp a.eval o).run P w = .ok (.value (.slice (some ⟨w.heap.size, 0, none⟩) x.toNat x.toNat)) (w.alloc (.cells (madeCells ei.zero.cells (x.toNat * G.info.size)) e)) := by
      unfold execOp
      rw [ho]
      simp only [e1, e2, AV.c, AC.c, Sem.run_bind, hr, Result.andThen_ok, Sem.run_pure]
    have how := World.ownsRow_lit (base := 0) (e := e) (size := 1) w (madeCells ei.zero.cells (x.toNat * G.info.size)) x.toNat (Nat.zero_le _) (by simp only [maxLen]; omega) (by rw [size_madeCells, hgs, he1])
    rw [he2, toList_madeCells_one, hgs, he1, Nat.mul_one, ← flat_one hz] at how
    have hh := hs.heap.add (e := .sl .own e 1 (List.replicate x.toNat z) enc z) (v := .slice (some ⟨w.heap.size, 0, none⟩) x.toNat x.toNat) (w' := w.alloc (.cells (madeCells ei.zero.cells (x.toNat * G.info.size)) e))
      ((Below.refl _ w).alloc (Nat.le_refl _) _) rfl ⟨henc, fun g hg => (by cases hg; exact hs.heap.fr.news _ hs.heap.fr.size), by rw [List.length_replicate, he2, hgs, he1, Nat.mul_one]; exact how⟩ trivial (fun g' hg' => (by cases hg'; simp)) (fun g' hg' => (by cases hg'; exact .inl (Nat.le_refl _)))
    exact wp_value (wanted_none (ops := ops) hg) hrun (hK _ _ _ (put_sat (env_add hs (upd_lt n s.nx _) hh) hs' (fun _ => ⟨by simp only [AV.c, AC.c, upd_same], Nat.lt_succ_self _⟩) (fun hn => absurd hH hn)))
theorem find_int_none {κ : Type} {t : TypeId} (h : isI64 P t = true) (a : Int) (key : κ → Int) (ek ex : κ → Value) (hk : ∀ x, ek x = .int .i64 (key x)) (w : World) (L : List κ) (hn : ∀ x ∈ L, key x ≠ a) :
    (Instr.findKey t (.int .i64 a) (ents L ek ex).toList).run P w = .ok none w := by
  rw [find_int h a key ek ex hk w L, List.find?_eq_none.2]
  · rfl
  · intro z hz
    have := hn z.1 (by
      have := List.mem_zipIdx' hz
      rw [this.2]
      exact List.getElem_mem _)
    simpa using this
end
end Go.Proofs.YthfnedbpmdkdjaaDoor.Eng
namespace Go.Proofs.YthfnedbpmdkdjaaDoor.D
open Go Go.RowKit Go.Proofs.YthfnedbpmdkdjaaDoor.Eng Go.Proofs.YthfnedbpmdkdjaaDoor.Cm
set_option linter.unusedVariables false
set_option linter.unusedSimpArgs false
set_option linter.unusedSectionVars false
def cloneI (l : List Int) : List Int := l
theorem cloneI_calls (g0 : Value) (l : List Int) (w : World) (r0 : Reads w g0 1 l encI 0) (hl100 : l.length ≤ 100) : Calls Tryd.prog 101 #[g0] w fun e w' => ∃ v0, e = .returned (v0) ∧ Below w.heap.size w w' ∧ w'.ownsRow w.heap.size 3 1 v0 (cloneI l).length (flat (cloneI l) encI) := by
  refine calls_of_WP (cx := cx0 w (vn [g0]) 1) (n := vn [g0]) (vs := [.s (.ref 0)]) (hp := [(0, .sl .ro 3 1 l encI 0)]) (nx := 1) tt_ok Tryd.func101 rfl rfl rfl (by kernel_rfl) (HSat_args (vn_one (by simp [r0.one])) (Nat.le_refl _) ⟨⟨⟨fun _ => rfl, by decide, r0⟩, (Nat.le_of_ble_eq_true rfl)⟩, trivial⟩) (vsOk (by kernel_rfl)) ?_
  have hl0 := Reads.len r0
  refine WP_seq (WP_region (WPO_all tt_ok (by kernel_rfl) ?_))
  refine WP_seq (WP_seq (WP_region (WPO_run tt_ok 1 (by kernel_rfl) ?_)))
  refine NILQ tt_ok 0 33 (.tmp 3) (.const (.slice none 0 0)) .ro 3 1 l encI 0 (by kernel_rfl) (by kernel_rfl) (by kernel_rfl) (fun _ => (by kernel_rfl)) (fun qn1 hnqn1 => ?_)
  refine WPO_nil ?_
  refine WP_cond (qn1) (by kernel_rfl) (fun hc2 => ?_) (fun hc2 => ?_)
  · refine WP_seq (WP_region (WPO_all tt_ok (by kernel_rfl) ?_))
    refine WP_ret ?_
    exact ⟨.s (.v (.slice none 0 0)), by kernel_rfl, fun nV w' h => ⟨.slice none 0 0, rfl, h.bel, by rw [show cloneI l = ([]) from by rw [hnqn1 (by assumption)]; rfl]; exact own_nil _ _ _ _ _⟩⟩
  refine WP_skip ?_
  refine WP_seq (WP_region (LIT tt_ok (by kernel_rfl) ?_))
  refine LITSL 1 3 0 1 [] ([] : List Int) encI 0 (by kernel_rfl) rfl (fun _ => rfl) (fun n => rfl) ?_
  refine WPO_run tt_ok 1 (by kernel_rfl) ?_
  refine APPS tt_ok (.s (.ref 1)) (.s (.ref 0)) 33 3 (some 7) 1 ([] : List Int) l encI 0 (by kernel_rfl) (by kernel_rfl) (by kernel_rfl) (by kernel_rfl) (.inr ⟨1, rfl, (by kernel_rfl)⟩) ⟨0, .ro, rfl, (by kernel_rfl)⟩ (fun y => rfl) (fun y => List.all_eq_true.1 rfl) (fun i hi => (by have hby : (tyL tt 3).map (·.bytes) = some 8 := (by kernel_rfl); rw [hi] at hby; simp only [Option.map_some, Option.some.injEq] at hby; rw [hby]; simp only [List.length_append, List.length_cons, List.length_nil]; omega)) ?_
  refine WPO_all tt_ok (by kernel_rfl) ?_
  refine WP_ret ?_
  exact ⟨.s (.ref 2), by kernel_rfl, fun nV w' h => ⟨nV 2, rfl, h.bel, by rw [show cloneI l = (([] : List Int) ++ l) from rfl]; exact own_of (z := 0) h (by kernel_rfl)⟩⟩
def cloneL (l : List Load) : List Load := l
theorem cloneL_calls (g0 : Value) (l : List Load) (w : World) (r0 : Reads w g0 3 l encLoad zLoad) (hl5 : l.length ≤ 5) : Calls Tryd.prog 103 #[g0] w fun e w' => ∃ v0, e = .returned (v0) ∧ Below w.heap.size w w' ∧ w'.ownsRow w.heap.size 61 3 v0 (cloneL l).length (flat (cloneL l) encLoad) := by
  refine calls_of_WP (cx := cx0 w (vn [g0]) 1) (n := vn [g0]) (vs := [.s (.ref 0)]) (hp := [(0, .sl .ro 61 3 l encLoad zLoad)]) (nx := 1) tt_ok Tryd.func103 rfl rfl rfl (by kernel_rfl) (HSat_args (vn_one (by simp [r0.one])) (Nat.le_refl _) ⟨⟨⟨fun _ => rfl, by decide, r0⟩, (Nat.le_of_ble_eq_true rfl)⟩, trivial⟩) (vsOk (by kernel_rfl)) ?_
  have hl0 := Reads.len r0
  refine WP_seq (WP_region (WPO_all tt_ok (by kernel_rfl) ?_))
  refine WP_seq (WP_seq (WP_region (WPO_run tt_ok 1 (by kernel_rfl) ?_)))
  refine NILQ tt_ok 0 22 (.tmp 3) (.const (.slice none 0 0)) .ro 61 3 l encLoad zLoad (by kernel_rfl) (by kernel_rfl) (by kernel_rfl) (fun _ => (by kernel_rfl)) (fun qn1 hnqn1 => ?_)
  refine WPO_nil ?_
  refine WP_cond (qn1) (by kernel_rfl) (fun hc2 => ?_) (fun hc2 => ?_)
  · refine WP_seq (WP_region (WPO_all tt_ok (by kernel_rfl) ?_))
    refine WP_ret ?_
    exact ⟨.s (.v (.slice none 0 0)), by kernel_rfl, fun nV w' h => ⟨.slice none 0 0, rfl, h.bel, by rw [show cloneL l = ([]) from by rw [hnqn1 (by assumption)]; rfl]; exact own_nil _ _ _ _ _⟩⟩
  refine WP_skip ?_
  refine WP_seq (WP_region (LIT tt_ok (by kernel_rfl) ?_))
  refine LITSL 1 61 0 3 [] ([] : List Load) encLoad zLoad (by kernel_rfl) rfl (fun _ => rfl) (fun n => rfl) ?_
  refine WPO_run tt_ok 1 (by kernel_rfl) ?_
  refine APPS tt_ok (.s (.ref 1)) (.s (.ref 0)) 22 61 (some 7) 3 ([] : List Load) l encLoad zLoad (by kernel_rfl) (by kernel_rfl) (by kernel_rfl) (by kernel_rfl) (.inr ⟨1, rfl, (by kernel_rfl)⟩) ⟨0, .ro, rfl, (by kernel_rfl)⟩ (fun y => rfl) (fun y => List.all_eq_true.1 rfl) (fun i hi => (by have hby : (tyL tt 61).map (·.bytes) = some 24 := (by kernel_rfl); rw [hi] at hby; simp only [Option.map_some, Option.some.injEq] at hby; rw [hby]; simp only [List.length_append, List.length_cons, List.length_nil]; omega)) ?_
  refine WPO_all tt_ok (by kernel_rfl) ?_
  refine WP_ret ?_
  exact ⟨.s (.ref 2), by kernel_rfl, fun nV w' h => ⟨nV 2, rfl, h.bel, by rw [show cloneL l = (([] : List Load) ++ l) from rfl]; exact own_of (z := zLoad) h (by kernel_rfl)⟩⟩
def neverA_c1 (b : DBook) (k1 : Nat) : Int → Bool := fun v1_1 => decide ((k1 : Int) < (IntKind.i64.wrap ((allD b) + 1)))
def neverA_b1 (b : DBook) (k1 : Nat) : Int → Bd Int ((List Int) × Int) := fun v1_1 => .go (bif (togetherD b (k1 : Int)) then IntKind.i64.wrap (BitVec.ofInt IntKind.i64.bits v1_1 ||| BitVec.ofInt IntKind.i64.bits (k1 : Int)).toNat else v1_1)
def neverA (b : DBook) : (List Int) × Int :=
  (bif (checkD b) != 0 then ([], (checkD b)) else (match loopR (neverA_c1 b) (neverA_b1 b) (2 ^ b.loads.length) 0 0 with | .brk u1_0 => ((listedD b (IntKind.i64.wrap (BitVec.ofInt IntKind.i64.bits (allD b) &&& ~~~(BitVec.ofInt IntKind.i64.bits u1_0)).toNat)), 0) | .ret r => r))
theorem neverA_calls (g0 : Value) (b : DBook) (w : World) (r0 : Reads w g0 3 b.loads encLoad zLoad) (hnb : NobodyAt w) (hla : LanesAt w) : Calls Tryd.prog 47 #[.agg #[g0, iv b.rule, iv b.most]] w fun e w' => ∃ v0, e = .returned (.tuple #[v0, iv (neverA b).2]) ∧ Below w.heap.size w w' ∧ Reads w' v0 1 (neverA b).1 encI 0 ∧ (∀ g, vblk v0 = some g → w.heap.size ≤ g ∧ g < w'.heap.size) := by
  refine calls_of_WP (cx := cx0 w (vn [g0]) 1) (n := vn [g0]) (vs := [.g [.ref 0, .int .i64 b.rule, .int .i64 b.most]]) (hp := [(0, .sl .ro 61 3 b.loads encLoad zLoad), (1, .pf NobodyAt (· = 1)), (2, .pf LanesAt (· = 0))]) (nx := 3) tt_ok Tryd.func47 rfl rfl rfl (by kernel_rfl) (HSat_args (vn_one (by simp [r0.one])) (by decide) ⟨⟨⟨fun _ => rfl, by decide, r0⟩, (Nat.le_of_ble_eq_true rfl)⟩, ⟨⟨hnb, fun w1 w2 h1 hw => (hw 1 rfl).trans h1, fun g hg => by cases hg; exact (Array.getElem?_eq_some_iff.1 hnb).1⟩, (Nat.le_of_ble_eq_true rfl)⟩, ⟨⟨hla, fun w1 w2 h1 hw => (hw 0 rfl).trans h1, fun g hg => by cases hg; exact (Array.getElem?_eq_some_iff.1 hla).1⟩, (Nat.le_of_ble_eq_true rfl)⟩, trivial⟩) (vsOk (by kernel_rfl)) ?_
  have hl0 := Reads.len r0
  refine WP_seq (WP_region (WPO_all tt_ok (by kernel_rfl) ?_))
  refine WP_seq (WP_seq (WP_region (WPO_run tt_ok 1 (by kernel_rfl) ?_)))
  refine CALL 66 [.g [.ref 0, .int .i64 b.rule, .int .i64 b.most]] (.s (.int .i64 (checkD b))) [] (by kernel_rfl) (goes_of (by kernel_rfl)) (by kernel_rfl) (by kernel_rfl) (fun _ nV w h => checkD_calls (nV 0) b w (h.reads (id := 0) (kd := .ro) (e := 61) (by kernel_rfl)) ) ?_
  refine WPO_all tt_ok (by kernel_rfl) ?_
  refine WP_seq (WP_region (WPO_all tt_ok (by kernel_rfl) ?_))
  refine WP_cond ((checkD b) != 0) (by kernel_rfl) (fun hc2 => ?_) (fun hc2 => ?_)
  · have hc2' := hc2; try simp only [Bool.and_eq_true, Bool.or_eq_true, Bool.and_eq_false_iff, Bool.or_eq_false_iff, Bool.not_eq_true', Bool.not_eq_false', decide_eq_true_eq, decide_eq_false_iff_not, beq_iff_eq, beq_eq_false_iff_ne, bne_iff_ne, bne_eq_false_iff_eq, ne_eq] at hc2'
    refine WP_seq (WP_region (WPO_all tt_ok (by kernel_rfl) ?_))
    refine WP_ret ?_
    exact ⟨.t [(false, [.v (.slice none 0 0)]), (false, [.int .i64 (checkD b)])], by kernel_rfl, fun nV w' h => ⟨.slice none 0 0, by rw [show neverA b = ([], (checkD b)) from by unfold neverA; simp only [hc2, cond_true, cond_false]]; rfl, h.bel, by rw [show neverA b = ([], (checkD b)) from by unfold neverA; simp only [hc2, cond_true, cond_false]]; exact reads_nil, fun g hg => by cases hg⟩⟩
  have hc2' := hc2; try simp only [Bool.and_eq_true, Bool.or_eq_true, Bool.and_eq_false_iff, Bool.or_eq_false_iff, Bool.not_eq_true', Bool.not_eq_false', decide_eq_true_eq, decide_eq_false_iff_not, beq_iff_eq, beq_eq_false_iff_ne, bne_iff_ne, bne_eq_false_iff_eq, ne_eq] at hc2'
  refine WP_skip ?_
  have hv : ValidD b := checkD_valid.1 (bne_eq_false_iff_eq.1 (by assumption))
  have hb5 := hv.n.2
  have hpw := all_wrap hb5
  have hpl := pow_le5 hb5
  refine WP_seq (WP_region (WPO_run tt_ok 1 (by kernel_rfl) ?_))
  refine CALLMAP 90 [.g [.ref 0, .int .i64 b.rule, .int .i64 b.most]] (plL b) plKey plVal (fun gM1 => .g [.ref 0, .int .i64 b.rule, .int .i64 b.most, .v (.map (some gM1))]) (by kernel_rfl) (goes_of (by kernel_rfl)) (fun _ => (by kernel_rfl)) (fun _ => (by kernel_rfl)) (fun _ n n' h => by simp only [AV.c, cellsV, part1, AC.c, List.map_cons, List.map_nil, h 0 (by show 0 < 4; decide)]) (fun nV w h => opened_plL (nV 0) b w (h.reads (id := 0) (kd := .ro) (e := 61) (by kernel_rfl)) (h.ents (1, .pf NobodyAt (· = 1)) (fnd_mem (by kernel_rfl))).1 (by first | assumption | omega)) (fun gM1 => ?_)
  refine WPO_all tt_ok (by kernel_rfl) ?_
  refine WP_seq (WP_seq (WP_region (WPO_run tt_ok 1 (by kernel_rfl) ?_)))
  refine CALL 96 [.g [.ref 0, .int .i64 b.rule, .int .i64 b.most, .v (.map (some gM1))]] (.s (.int .i64 (allD b))) [] (by kernel_rfl) (goes_of (by kernel_rfl)) (by kernel_rfl) (by kernel_rfl) (fun _ nV w h => allD_calls (nV 0) gM1 b w (h.reads (id := 0) (kd := .ro) (e := 61) (by kernel_rfl)) (h.ents (4, mapE gM1 (plL b) plKey plVal) (fnd_mem (by kernel_rfl))).1 (by first | assumption | omega)) ?_
  refine WPO_all tt_ok (by kernel_rfl) ?_
  refine WP_loopA (ρ := (List Int) × Int) (neverA_c1 b) (neverA_b1 b) (2 ^ b.loads.length) 0 (fun k : Nat => (k : Int)) (fun (ci : Int) (zz : Int) => ⟨34, [(18, [], .s (.int .i64 ci)), (17, [], .s (.int .i64 (IntKind.i64.wrap ((allD b) + 1)))), (6, [], .s (.int .i64 zz)), (5, [], .s (.p 5 0))], [(5, .box 94 [.ref 0, .int .i64 b.rule, .int .i64 b.most, .v (.map (some gM1))]), (4, mapE gM1 (plL b) plKey plVal), (3, .box 24 [.ref 0, .int .i64 b.rule, .int .i64 b.most]), (0, .sl .ro 61 3 b.loads encLoad zLoad), (1, .pf NobodyAt (· = 1)), (2, .pf LanesAt (· = 0))], 6, []⟩) (fun zz : Int => ⟨34, [(6, [], .s (.int .i64 zz)), (5, [], .s (.p 5 0))], [(5, .box 94 [.ref 0, .int .i64 b.rule, .int .i64 b.most, .v (.map (some gM1))]), (4, mapE gM1 (plL b) plKey plVal), (3, .box 24 [.ref 0, .int .i64 b.rule, .int .i64 b.most]), (0, .sl .ro 61 3 b.loads encLoad zLoad), (1, .pf NobodyAt (· = 1)), (2, .pf LanesAt (· = 0))], 6, []⟩) (fun k zz => True) trivial ⟨0, rfl, Le_sel (ts := [18, 17, 6, 5]) (ids := [5, 4, 3, 0, 1, 2]) (nx := 6) (by kernel_rfl)⟩ ?_ ?_
  · intro k1 v1_1 hn1 hp1 hi1 Q1 hq1 ho1
    refine WP_seq (WP_region (WPO_all tt_ok (by kernel_rfl) ?_))
    refine WP_seq (WP_cond (decide ((k1 : Int) < (IntKind.i64.wrap ((allD b) + 1)))) (by kernel_rfl) (fun hc3 => ?_) (fun hc3 => ?_))
    rotate_left
    · refine WP_exit ?_
      show Q1 (.exit 0) _
      exact LA_exit hq1 v1_1 (loopR_end hi1 hc3) ⟨k1, hn1, hp1⟩ (Le_sel (ts := [6, 5]) (ids := [5, 4, 3, 0, 1, 2]) (nx := 6) (by kernel_rfl))
    have hc3' := of_decide_eq_true hc3
    have hk1 : k1 < 2 ^ b.loads.length := by rw [hpw] at hc3'; omega
    refine WP_skip ?_
    refine WP_seq (WP_block ?_)
    refine WP_seq (WP_region (WPO_all tt_ok (by kernel_rfl) ?_))
    refine WP_seq (WP_region (WPO_run tt_ok 2 (by kernel_rfl) ?_))
    refine CALL 97 [.g [.ref 0, .int .i64 b.rule, .int .i64 b.most, .v (.map (some gM1))], .s (.int .i64 (k1 : Int))] (.s (.bool (togetherD b (k1 : Int)))) [] (by kernel_rfl) (goes_of (by kernel_rfl)) (by kernel_rfl) (by kernel_rfl) (fun _ nV w h => togetherD_calls (nV 0) gM1 b (k1 : Int) w (h.reads (id := 0) (kd := .ro) (e := 61) (by kernel_rfl)) (h.ents (4, mapE gM1 (plL b) plKey plVal) (fnd_mem (by kernel_rfl))).1 (h.ents (2, .pf LanesAt (· = 0)) (fnd_mem (by kernel_rfl))).1 (by first | assumption | omega) (by first | assumption | omega)) ?_
    refine WPO_nil ?_
    refine WP_join ((togetherD b (k1 : Int))) (fun q => ⟨34, [(6, [], .s (.int .i64 (bif q then IntKind.i64.wrap (BitVec.ofInt IntKind.i64.bits v1_1 ||| BitVec.ofInt IntKind.i64.bits (k1 : Int)).toNat else v1_1))), (18, [], .s (.int .i64 (k1 : Int))), (17, [], .s (.int .i64 (IntKind.i64.wrap ((allD b) + 1)))), (5, [], .s (.p 5 0))], [(5, .box 94 [.ref 0, .int .i64 b.rule, .int .i64 b.most, .v (.map (some gM1))]), (4, mapE gM1 (plL b) plKey plVal), (3, .box 24 [.ref 0, .int .i64 b.rule, .int .i64 b.most]), (0, .sl .ro 61 3 b.loads encLoad zLoad), (1, .pf NobodyAt (· = 1)), (2, .pf LanesAt (· = 0))], 6, []⟩) (by kernel_rfl) (fun hc5 => ?_) (fun hc5 => ?_) ?_
    · refine WP_region (WPO_all tt_ok (by kernel_rfl) ?_)
      exact Le_sel (ts := [6, 18, 17, 5]) (ids := [5, 4, 3, 0, 1, 2]) (nx := 6) (by kernel_rfl)
    · refine WP_skip ?_
      exact Le_sel (ts := [6, 18, 17, 5]) (ids := [5, 4, 3, 0, 1, 2]) (nx := 6) (by kernel_rfl)
    refine WP_region (WPO_all tt_ok (by kernel_rfl) ?_)
    show Q1 .normal _
    exact LA_go hq1 (ci := IntKind.i64.wrap ((k1 : Int) + 1)) (bif (togetherD b (k1 : Int)) then IntKind.i64.wrap (BitVec.ofInt IntKind.i64.bits v1_1 ||| BitVec.ofInt IntKind.i64.bits (k1 : Int)).toNat else v1_1) hk1 (by show _ = ((k1 + 1 : Nat) : Int); rw [wrapI (by omega) (by omega)]; omega) (loopR_go hi1 hk1 hc3 (rfl)) trivial (Le_sel (ts := [18, 17, 6, 5]) (ids := [5, 4, 3, 0, 1, 2]) (nx := 6) (by kernel_rfl))
  intro u1_0 hR1 hP1 s' hl
  refine WP_le hl ?_
  clear hl s'
  refine WP_seq (WP_drawH [] (by kernel_rfl) (by kernel_rfl) ?_)
  refine H_run tt_ok [0, 1, 3] (f' := 5) (by kernel_rfl) (by kernel_rfl) (by kernel_rfl) ?_
  refine H_step 2 (by kernel_rfl) (by kernel_rfl) (fun hfz cx' hx1 hx2 => ?_)
  refine CALL 96 [.g [.ref 0, .int .i64 b.rule, .int .i64 b.most, .v (.map (some gM1))]] (.s (.int .i64 (allD b))) [] (by kernel_rfl) (goes_of (by kernel_rfl)) (by kernel_rfl) (by kernel_rfl) (fun _ nV w h => allD_calls (nV 0) gM1 b w (h.reads (id := 0) (kd := .ro) (e := 61) (by kernel_rfl)) (h.ents (4, mapE gM1 (plL b) plKey plVal) (fnd_mem (by kernel_rfl))).1 (by first | assumption | omega)) ?_
  refine WPO_end (by kernel_rfl) ⟨rfl, (hfz.fnds [5, 4, 3, 0, 1, 2] (by kernel_rfl) ⟨by kernel_rfl, by kernel_rfl, by kernel_rfl, by kernel_rfl, by kernel_rfl, by kernel_rfl, trivial⟩ (by kernel_rfl)), ?_⟩
  refine H_run tt_ok [4] (f' := 3) (by kernel_rfl) (by kernel_rfl) (by kernel_rfl) ?_
  refine H_step 5 (by kernel_rfl) (by kernel_rfl) (fun hfz cx' hx1 hx2 => ?_)
  refine CALLSL 102 [.g [.ref 0, .int .i64 b.rule, .int .i64 b.most, .v (.map (some gM1))], .s (.int .i64 (IntKind.i64.wrap (BitVec.ofInt IntKind.i64.bits (allD b) &&& ~~~(BitVec.ofInt IntKind.i64.bits u1_0)).toNat))] (fun sv2 => .s (.v sv2)) 1 (listedD b (IntKind.i64.wrap (BitVec.ofInt IntKind.i64.bits (allD b) &&& ~~~(BitVec.ofInt IntKind.i64.bits u1_0)).toNat)) encI 0 (by decide) (by kernel_rfl) (goes_of (by kernel_rfl)) (fun _ => (by kernel_rfl)) (fun _ => (by kernel_rfl)) (fun _ _ _ => rfl) (fun nV w h => listedD_calls (nV 0) gM1 b (IntKind.i64.wrap (BitVec.ofInt IntKind.i64.bits (allD b) &&& ~~~(BitVec.ofInt IntKind.i64.bits u1_0)).toNat) w (h.reads (id := 0) (kd := .ro) (e := 61) (by kernel_rfl)) (h.ents (4, mapE gM1 (plL b) plKey plVal) (fnd_mem (by kernel_rfl))).1 (by first | assumption | omega)) (fun sv2 => ?_)
  refine WPO_end (by kernel_rfl) ⟨rfl, (hfz.fnds [5, 4, 3, 0, 1, 2] (by kernel_rfl) ⟨by kernel_rfl, by kernel_rfl, by kernel_rfl, by kernel_rfl, by kernel_rfl, by kernel_rfl, trivial⟩ (by kernel_rfl)), ?_⟩
  refine H_run tt_ok [6, 7] (f' := 0) (by kernel_rfl) (by kernel_rfl) (by kernel_rfl) ?_
  refine H_done (by kernel_rfl) ?_
  refine WP_ret ?_
  exact ⟨.t [(false, [.v sv2]), (false, [.int .i64 0])], by kernel_rfl, fun nV w' h => ⟨sv2, by rw [show neverA b = ((listedD b (IntKind.i64.wrap (BitVec.ofInt IntKind.i64.bits (allD b) &&& ~~~(BitVec.ofInt IntKind.i64.bits u1_0)).toNat)), 0) from by unfold neverA; simp only [hc2, hR1, cond_true, cond_false]]; rfl, h.bel, by rw [show neverA b = ((listedD b (IntKind.i64.wrap (BitVec.ofInt IntKind.i64.bits (allD b) &&& ~~~(BitVec.ofInt IntKind.i64.bits u1_0)).toNat)), 0) from by unfold neverA; simp only [hc2, hR1, cond_true, cond_false]]; exact (slE_lt (id := 6) (v := sv2) (sz := 1) (li := (listedD b (IntKind.i64.wrap (BitVec.ofInt IntKind.i64.bits (allD b) &&& ~~~(BitVec.ofInt IntKind.i64.bits u1_0)).toNat))) (enc := encI) (z := 0) h (by kernel_rfl)).1, (slE_lt (id := 6) (v := sv2) (sz := 1) (li := (listedD b (IntKind.i64.wrap (BitVec.ofInt IntKind.i64.bits (allD b) &&& ~~~(BitVec.ofInt IntKind.i64.bits u1_0)).toNat))) (enc := encI) (z := 0) h (by kernel_rfl)).2⟩⟩
def stKey (x : Int × Bool) : Value := iv x.1
def stVal (x : Int × Bool) : Value := .bool x.2
abbrev stK (x : Int × Bool) : Int := x.1
abbrev stV (x : Int × Bool) : Bool := x.2
def badD (S : List (Int × Bool)) (n : Int) : Bool :=
  (n == 0) || (!(atI S stK stV n))
theorem badD_calls (S : List (Int × Bool)) (gt gs : Nat) (n : Int) (w : World) (hs : (fun w => w.heap[gt]? = some (.cells #[.map (some gs)] 109 (0, 0))) w) (hms : (fun w => w.heap[gs]? = some (.map (ents S stKey stVal) S.length)) w)  : Calls Tryd.prog 100 #[iv n, .pointer (some ⟨gt, 0, none⟩)] w fun e w' => e = .returned (.bool (badD S n)) ∧ Below w.heap.size w w' := by
  refine calls_of_WP (cx := cx0 w Eng.n0 0) (n := Eng.n0) (vs := [.s (.int .i64 n), .s (.v (.pointer (some ⟨gt, 0, none⟩)))]) (hp := [(0, .pf (fun w => w.heap[gt]? = some (.cells #[.map (some gs)] 109 (0, 0))) (· = gt)), (1, mapF gs S stKey stVal)]) (nx := 2) tt_ok Tryd.func100 rfl rfl rfl (by kernel_rfl) (HSat_args (fun _ => rfl) (by decide) ⟨⟨⟨hs, fun w1 w2 h1 hw => (hw gt rfl).trans h1, fun g hg => by cases hg; exact (Array.getElem?_eq_some_iff.1 hs).1⟩, (Nat.le_of_ble_eq_true rfl)⟩, ⟨⟨hms, fun w1 w2 h1 hw => (hw gs rfl).trans h1, fun g hg => by cases hg; exact (Array.getElem?_eq_some_iff.1 hms).1⟩, (Nat.le_of_ble_eq_true rfl)⟩, trivial⟩) (vsOk (by kernel_rfl)) ?_
  refine WP_seq (WP_region (WPO_all tt_ok (by kernel_rfl) ?_))
  refine WP_seq (WP_region (WPO_run tt_ok 3 (by kernel_rfl) ?_))
  refine LDGT tt_ok 109 gt 0 [(n == 0, false)] [.v (.map (some gs))] 109 (.s (.v (.map (some gs)))) (by kernel_rfl) (by kernel_rfl) (by kernel_rfl) (fun nV w h => (h.ents (0, .pf (fun w => w.heap[gt]? = some (.cells #[.map (some gs)] 109 (0, 0))) (· = gt)) (fnd_mem (by kernel_rfl))).1) (by kernel_rfl) ?_
  refine WPO_run tt_ok 1 (by kernel_rfl) ?_
  refine LKP_int tt_ok S stKey stVal stK stV S.length gs 3 4 n [(n == 0, false)] (by kernel_rfl) (fun _ => rfl) (fun _ => rfl) (by kernel_rfl) (by kernel_rfl) (by kernel_rfl) (fun nV w h => (h.ents (1, mapF gs S stKey stVal) (fnd_mem (by kernel_rfl))).1) ?_
  refine WPO_all tt_ok (by kernel_rfl) ?_
  refine WP_ret ?_
  exact ⟨.s (.bool ((n == 0) || (!(atI S stK stV n)))), by kernel_rfl, fun nV w' h => ⟨by rw [show badD S n = ((n == 0) || (!(atI S stK stV n))) from rfl]; rfl, h.bel⟩⟩
def indexD_c1 (S : List (Int × Bool)) (l : List Int) (k1 : Nat) : Unit → Bool := fun _ => decide ((k1 : Int) < (l.length : Int))
def indexD_b1 (S : List (Int × Bool)) (l : List Int) (k1 : Nat) : Unit → Bd Unit Int := fun _ => (bif badD S (l.getD k1 0) then .ret (k1 : Int) else .go ())
def indexD (S : List (Int × Bool)) (l : List Int) : Int :=
  (match loopR (indexD_c1 S l) (indexD_b1 S l) l.length 0 () with | .brk () => -1 | .ret r => r)
theorem indexD_calls (S : List (Int × Bool)) (gt gs : Nat) (g0 : Value) (l : List Int) (w : World) (rl : Reads w g0 1 l encI 0) (hs : (fun w => w.heap[gt]? = some (.cells #[.map (some gs)] 109 (0, 0))) w) (hms : (fun w => w.heap[gs]? = some (.map (ents S stKey stVal) S.length)) w)  : Calls Tryd.prog 122 #[g0, .func (.func 100) #[] #[.pointer (some ⟨gt, 0, none⟩)]] w fun e w' => e = .returned (iv (indexD S l)) ∧ Below w.heap.size w w' := by
  refine calls_of_WP (cx := cx0 w (vn [g0]) 1) (n := vn [g0]) (vs := [.s (.ref 0), .s (.v (.func (.func 100) #[] #[.pointer (some ⟨gt, 0, none⟩)]))]) (hp := [(0, .sl .ro 3 1 l encI 0), (1, .pf (fun w => w.heap[gt]? = some (.cells #[.map (some gs)] 109 (0, 0))) (· = gt)), (2, mapF gs S stKey stVal)]) (nx := 3) tt_ok Tryd.func122 rfl rfl rfl (by kernel_rfl) (HSat_args (vn_one (by simp [rl.one])) (by decide) ⟨⟨⟨fun _ => rfl, by decide, rl⟩, (Nat.le_of_ble_eq_true rfl)⟩, ⟨⟨hs, fun w1 w2 h1 hw => (hw gt rfl).trans h1, fun g hg => by cases hg; exact (Array.getElem?_eq_some_iff.1 hs).1⟩, (Nat.le_of_ble_eq_true rfl)⟩, ⟨⟨hms, fun w1 w2 h1 hw => (hw gs rfl).trans h1, fun g hg => by cases hg; exact (Array.getElem?_eq_some_iff.1 hms).1⟩, (Nat.le_of_ble_eq_true rfl)⟩, trivial⟩) (vsOk (by kernel_rfl)) ?_
  have hl0 := Reads.len rl
  refine WP_seq (WP_region (WPO_all tt_ok (by kernel_rfl) ?_))
  refine WP_seq (WP_seq (WP_region (WPO_all tt_ok (by kernel_rfl) ?_)))
  refine WP_loopA (ρ := Int) (indexD_c1 S l) (indexD_b1 S l) l.length () (fun k : Nat => (k : Int)) (fun (ci : Int) (zz : Unit) => ⟨19, [(8, [], .s (.int .i64 ci)), (7, [], .s (.int .i64 (l.length : Int))), (0, [], .s (.ref 0)), (1, [], .s (.v (.func (.func 100) #[] #[.pointer (some ⟨gt, 0, none⟩)])))], [(0, .sl .ro 3 1 l encI 0), (1, .pf (fun w => w.heap[gt]? = some (.cells #[.map (some gs)] 109 (0, 0))) (· = gt)), (2, mapF gs S stKey stVal)], 3, []⟩) (fun zz : Unit => ⟨19, [], [(0, .sl .ro 3 1 l encI 0), (1, .pf (fun w => w.heap[gt]? = some (.cells #[.map (some gs)] 109 (0, 0))) (· = gt)), (2, mapF gs S stKey stVal)], 3, []⟩) (fun k zz => True) trivial ⟨0, rfl, Le_sel (ts := [8, 7, 0, 1]) (ids := [0, 1, 2]) (nx := 3) (by kernel_rfl)⟩ ?_ ?_
  · intro k1 zz hn1 hp1 hi1 Q1 hq1 ho1
    refine WP_seq (WP_region (WPO_all tt_ok (by kernel_rfl) ?_))
    refine WP_seq (WP_cond (decide ((k1 : Int) < (l.length : Int))) (by kernel_rfl) (fun hc1 => ?_) (fun hc1 => ?_))
    rotate_left
    · refine WP_exit ?_
      show Q1 (.exit 0) _
      exact LA_exit hq1 () (loopR_end hi1 hc1) ⟨k1, hn1, hp1⟩ (Le_sel (ts := []) (ids := [0, 1, 2]) (nx := 3) (by kernel_rfl))
    have hc1' := of_decide_eq_true hc1
    have hk1 : k1 < l.length := by omega
    refine WP_skip ?_
    refine WP_seq (WP_block ?_)
    refine WP_seq (WP_region (WPO_all tt_ok (by kernel_rfl) ?_))
    refine WP_seq (WP_region (WPO_run tt_ok 3 (by kernel_rfl) ?_))
    refine IX tt_ok (k1 : Int) l.length [] (by kernel_rfl) (fun hG => ⟨by omega, by omega⟩) ?_
    refine WPO_run tt_ok 1 (by kernel_rfl) ?_
    refine CALL 100 [.s (.int .i64 (l.getD k1 0)), .s (.v (.pointer (some ⟨gt, 0, none⟩)))] (.s (.bool (badD S (l.getD k1 0)))) [] (by kernel_rfl) (goes_of (by kernel_rfl)) (by kernel_rfl) (by kernel_rfl) (fun _ nV w h => badD_calls S gt gs (l.getD k1 0) w (h.ents (1, .pf (fun w => w.heap[gt]? = some (.cells #[.map (some gs)] 109 (0, 0))) (· = gt)) (fnd_mem (by kernel_rfl))).1 (h.ents (2, mapF gs S stKey stVal) (fnd_mem (by kernel_rfl))).1) ?_
    refine WPO_nil ?_
    refine WP_cond (badD S (l.getD k1 0)) (by kernel_rfl) (fun hc3 => ?_) (fun hc3 => ?_)
    · refine WP_seq (WP_region (WPO_all tt_ok (by kernel_rfl) ?_))
      refine WP_ret ?_
      show Q1 .ret _
      refine LA_ret hq1 ?_
      have he4 := loopR_ret (r := (k1 : Int)) hi1 hk1 hc1 (by unfold indexD_b1; simp only [hc3, cond_true, cond_false])
      exact ⟨.s (.int .i64 (k1 : Int)), by kernel_rfl, fun nV w' h => ⟨by rw [show indexD S l = (k1 : Int) from by unfold indexD; simp only [he4, cond_true, cond_false]]; rfl, h.bel⟩⟩
    refine WP_skip ?_
    refine WP_region (WPO_all tt_ok (by kernel_rfl) ?_)
    show Q1 .normal _
    exact LA_go hq1 (ci := IntKind.i64.wrap ((k1 : Int) + 1)) () hk1 (by show _ = ((k1 + 1 : Nat) : Int); rw [wrapI (by omega) (by omega)]; omega) (loopR_go hi1 hk1 hc1 (by unfold indexD_b1; simp only [hc3, cond_true, cond_false])) trivial (Le_sel (ts := [8, 7, 0, 1]) (ids := [0, 1, 2]) (nx := 3) (by kernel_rfl))
  intro zz hR1 hP1 s' hl
  refine WP_le hl ?_
  clear hl s'
  refine WP_seq (WP_region (WPO_all tt_ok (by kernel_rfl) ?_))
  refine WP_ret ?_
  exact ⟨.s (.int .i64 (-1)), by kernel_rfl, fun nV w' h => ⟨by rw [show indexD S l = (-1) from by unfold indexD; simp only [hR1, cond_true, cond_false]]; rfl, h.bel⟩⟩
def containsD (S : List (Int × Bool)) (l : List Int) : Bool :=
  decide ((indexD S l) ≥ 0)
theorem containsD_calls (S : List (Int × Bool)) (gt gs : Nat) (g0 : Value) (l : List Int) (w : World) (rl : Reads w g0 1 l encI 0) (hs : (fun w => w.heap[gt]? = some (.cells #[.map (some gs)] 109 (0, 0))) w) (hms : (fun w => w.heap[gs]? = some (.map (ents S stKey stVal) S.length)) w)  : Calls Tryd.prog 99 #[g0, .func (.func 100) #[] #[.pointer (some ⟨gt, 0, none⟩)]] w fun e w' => e = .returned (.bool (containsD S l)) ∧ Below w.heap.size w w' := by
  refine calls_of_WP (cx := cx0 w (vn [g0]) 1) (n := vn [g0]) (vs := [.s (.ref 0), .s (.v (.func (.func 100) #[] #[.pointer (some ⟨gt, 0, none⟩)]))]) (hp := [(0, .sl .ro 3 1 l encI 0), (1, .pf (fun w => w.heap[gt]? = some (.cells #[.map (some gs)] 109 (0, 0))) (· = gt)), (2, mapF gs S stKey stVal)]) (nx := 3) tt_ok Tryd.func99 rfl rfl rfl (by kernel_rfl) (HSat_args (vn_one (by simp [rl.one])) (by decide) ⟨⟨⟨fun _ => rfl, by decide, rl⟩, (Nat.le_of_ble_eq_true rfl)⟩, ⟨⟨hs, fun w1 w2 h1 hw => (hw gt rfl).trans h1, fun g hg => by cases hg; exact (Array.getElem?_eq_some_iff.1 hs).1⟩, (Nat.le_of_ble_eq_true rfl)⟩, ⟨⟨hms, fun w1 w2 h1 hw => (hw gs rfl).trans h1, fun g hg => by cases hg; exact (Array.getElem?_eq_some_iff.1 hms).1⟩, (Nat.le_of_ble_eq_true rfl)⟩, trivial⟩) (vsOk (by kernel_rfl)) ?_
  have hl0 := Reads.len rl
  refine WP_seq (WP_region (WPO_all tt_ok (by kernel_rfl) ?_))
  refine WP_seq (WP_region (WPO_run tt_ok 2 (by kernel_rfl) ?_))
  refine CALL 122 [.s (.ref 0), .s (.v (.func (.func 100) #[] #[.pointer (some ⟨gt, 0, none⟩)]))] (.s (.int .i64 (indexD S l))) [] (by kernel_rfl) (goes_of (by kernel_rfl)) (by kernel_rfl) (by kernel_rfl) (fun _ nV w h => indexD_calls S gt gs (nV 0) l w (h.reads (id := 0) (kd := .ro) (e := 3) (by kernel_rfl)) (h.ents (1, .pf (fun w => w.heap[gt]? = some (.cells #[.map (some gs)] 109 (0, 0))) (· = gt)) (fnd_mem (by kernel_rfl))).1 (h.ents (2, mapF gs S stKey stVal) (fnd_mem (by kernel_rfl))).1) ?_
  refine WPO_all tt_ok (by kernel_rfl) ?_
  refine WP_ret ?_
  exact ⟨.s (.bool (decide ((indexD S l) ≥ 0))), by kernel_rfl, fun nV w' h => ⟨by rw [show containsD S l = (decide ((indexD S l) ≥ 0)) from rfl]; rfl, h.bel⟩⟩
end Go.Proofs.YthfnedbpmdkdjaaDoor.D
namespace Go.Proofs.YthfnedbpmdkdjaaDoor.D
open Go Go.RowKit Go.Proofs.YthfnedbpmdkdjaaDoor.Eng Go.Proofs.YthfnedbpmdkdjaaDoor.Cm
set_option linter.unusedVariables false
set_option linter.unusedSimpArgs false
set_option linter.unusedSectionVars false
def CrossC (b : DBook) (S : List (Int × Bool)) (sv : Value) (gx gt gs gc : Nat) (R : Nat → Nat → Prop) (F : List Int → List Int → List Int × Bool) : Prop := ∀ (tv uv : Value) (so of : List Int) (w : World), R so.length of.length → Reads w sv 3 b.loads encLoad zLoad → Reads w tv 1 so encI 0 → Reads w uv 1 of encI 0 → (fun w => w.heap[gx]? = some (.cells #[sv, iv b.rule, iv b.most] 24 (0, 0))) w → (fun w => w.heap[gt]? = some (.cells #[.map (some gs)] 109 (0, 0))) w → (fun w => w.heap[gc]? = some (.cells #[.func (.func 98) #[] #[.pointer (some ⟨gx, 0, none⟩), .pointer (some ⟨gt, 0, none⟩), .pointer (some ⟨gc, 0, none⟩)]] 112 (0, 0))) w → (fun w => w.heap[gs]? = some (.map (ents S stKey stVal) S.length)) w →
    Calls Tryd.prog 98 #[tv, uv, .pointer (some ⟨gx, 0, none⟩), .pointer (some ⟨gt, 0, none⟩), .pointer (some ⟨gc, 0, none⟩)] w fun e w' => ∃ v, e = .returned (.tuple #[v, .bool (F so of).2]) ∧ Below w.heap.size w w' ∧ Reads w' v 1 (F so of).1 encI 0 ∧ (∀ g, vblk v = some g → vblk tv = some g ∨ (w.heap.size ≤ g ∧ g < w'.heap.size))
def crossS_c1 (b : DBook) (S : List (Int × Bool)) (F : List Int → List Int → List Int × Bool) (so : List Int) (of : List Int) (k1 : Nat) : Unit → Bool := fun _ => decide ((k1 : Int) < (of.length : Int))
def crossS_b1 (b : DBook) (S : List (Int × Bool)) (F : List Int → List Int → List Int × Bool) (so : List Int) (of : List Int) (k1 : Nat) : Unit → Bd Unit (List Int × Bool) := fun _ => (bif (F ((cut so 0 (so.length : Int)) ++ ([(k1 : Int)])) ((cloneI of).set k1 (IntKind.i64.wrap (BitVec.ofInt IntKind.i64.bits ((cloneI of).getD k1 0) ||| BitVec.ofInt IntKind.i64.bits (IntKind.i64.wrap (1 * 2 ^ (min (so.length : Int).toNat IntKind.i64.bits)))).toNat))).2 then .ret ((F ((cut so 0 (so.length : Int)) ++ ([(k1 : Int)])) ((cloneI of).set k1 (IntKind.i64.wrap (BitVec.ofInt IntKind.i64.bits ((cloneI of).getD k1 0) ||| BitVec.ofInt IntKind.i64.bits (IntKind.i64.wrap (1 * 2 ^ (min (so.length : Int).toNat IntKind.i64.bits)))).toNat))).1, true) else .go ())
def crossS (b : DBook) (S : List (Int × Bool)) (F : List Int → List Int → List Int × Bool) (so : List Int) (of : List Int) : List Int × Bool :=
  (bif (so.length : Int) == (b.loads.length : Int) then (so, !(containsD S of)) else (match loopR (crossS_c1 b S F so of) (crossS_b1 b S F so of) of.length 0 () with | .brk () => ([], false) | .ret r => r))
theorem crossS_calls (b : DBook) (S : List (Int × Bool)) (F : List Int → List Int → List Int × Bool) (R : Nat → Nat → Prop) (so of : List Int) (sv tv uv : Value) (gx gt gs gc : Nat) (w : World) (rb : Reads w sv 3 b.loads encLoad zLoad) (rs : Reads w tv 1 so encI 0) (ro : Reads w uv 1 of encI 0) (hx : (fun w => w.heap[gx]? = some (.cells #[sv, iv b.rule, iv b.most] 24 (0, 0))) w) (hs : (fun w => w.heap[gt]? = some (.cells #[.map (some gs)] 109 (0, 0))) w) (hc : (fun w => w.heap[gc]? = some (.cells #[.func (.func 98) #[] #[.pointer (some ⟨gx, 0, none⟩), .pointer (some ⟨gt, 0, none⟩), .pointer (some ⟨gc, 0, none⟩)]] 112 (0, 0))) w) (hms : (fun w => w.heap[gs]? = some (.map (ents S stKey stVal) S.length)) w) (hb5 : b.loads.length ≤ 5) (hso : so.length ≤ b.loads.length) (hof : of.length ≤ 5) (hF : CrossC b S sv gx gt gs gc R F) (hR : so.length < b.loads.length → R (so.length + 1) of.length) : Calls Tryd.prog 98 #[tv, uv, .pointer (some ⟨gx, 0, none⟩), .pointer (some ⟨gt, 0, none⟩), .pointer (some ⟨gc, 0, none⟩)] w fun e w' => ∃ v, e = .returned (.tuple #[v, .bool (crossS b S F so of).2]) ∧ Below w.heap.size w w' ∧ Reads w' v 1 (crossS b S F so of).1 encI 0 ∧ (∀ g, vblk v = some g → vblk tv = some g ∨ (w.heap.size ≤ g ∧ g < w'.heap.size)) := by
  refine calls_of_WP (cx := cx0 w (vn [sv, tv, uv]) 3) (n := vn [sv, tv, uv]) (vs := [.s (.ref 1), .s (.ref 2), .s (.v (.pointer (some ⟨gx, 0, none⟩))), .s (.v (.pointer (some ⟨gt, 0, none⟩))), .s (.v (.pointer (some ⟨gc, 0, none⟩)))]) (hp := [(0, .sl .ro 61 3 b.loads encLoad zLoad), (1, .sl .ro 3 1 so encI 0), (2, .sl .ro 3 1 of encI 0), (3, .pf (fun w => w.heap[gx]? = some (.cells #[sv, iv b.rule, iv b.most] 24 (0, 0))) (· = gx)), (4, .pf (fun w => w.heap[gt]? = some (.cells #[.map (some gs)] 109 (0, 0))) (· = gt)), (5, .pf (fun w => w.heap[gc]? = some (.cells #[.func (.func 98) #[] #[.pointer (some ⟨gx, 0, none⟩), .pointer (some ⟨gt, 0, none⟩), .pointer (some ⟨gc, 0, none⟩)]] 112 (0, 0))) (· = gc)), (6, mapF gs S stKey stVal)]) (nx := 7) tt_ok Tryd.func98 rfl rfl rfl (by kernel_rfl) (HSat_args (vn_one (by simp [rb.one, rs.one, ro.one])) (by decide) ⟨⟨⟨fun _ => rfl, by decide, rb⟩, (Nat.le_of_ble_eq_true rfl)⟩, ⟨⟨fun _ => rfl, by decide, rs⟩, (Nat.le_of_ble_eq_true rfl)⟩, ⟨⟨fun _ => rfl, by decide, ro⟩, (Nat.le_of_ble_eq_true rfl)⟩, ⟨⟨hx, fun w1 w2 h1 hw => (hw gx rfl).trans h1, fun g hg => by cases hg; exact (Array.getElem?_eq_some_iff.1 hx).1⟩, (Nat.le_of_ble_eq_true rfl)⟩, ⟨⟨hs, fun w1 w2 h1 hw => (hw gt rfl).trans h1, fun g hg => by cases hg; exact (Array.getElem?_eq_some_iff.1 hs).1⟩, (Nat.le_of_ble_eq_true rfl)⟩, ⟨⟨hc, fun w1 w2 h1 hw => (hw gc rfl).trans h1, fun g hg => by cases hg; exact (Array.getElem?_eq_some_iff.1 hc).1⟩, (Nat.le_of_ble_eq_true rfl)⟩, ⟨⟨hms, fun w1 w2 h1 hw => (hw gs rfl).trans h1, fun g hg => by cases hg; exact (Array.getElem?_eq_some_iff.1 hms).1⟩, (Nat.le_of_ble_eq_true rfl)⟩, trivial⟩) (vsOk (by kernel_rfl)) ?_
  have hcut : (cut so 0 (so.length : Int)).length = so.length := by simp [cut]
  have hcl : (cloneI of).length = of.length := rfl
  have hR1 : ∀ (x y : Int) (k : Nat), so.length < b.loads.length → R (cut so 0 (so.length : Int) ++ [x]).length ((cloneI of).set k y).length := by
    intro x y k h1; have := hR h1; rw [List.length_append, hcut, List.length_set, hcl]; exact this
  refine WP_seq (WP_region (WPO_all tt_ok (by kernel_rfl) ?_))
  refine WP_seq (WP_region (WPO_all tt_ok (by kernel_rfl) ?_))
  refine WP_seq (WP_seq (WP_region (WPO_run tt_ok 2 (by kernel_rfl) ?_)))
  refine LDGo tt_ok 22 gx 0 (some 18) [.ref 0, .int .i64 b.rule, .int .i64 b.most] 24 (.s (.ref 0)) (by kernel_rfl) (by kernel_rfl) (by kernel_rfl) (fun nV w h => (by have e0 : nV 0 = sv := h.ini 0 (by show 0 < 3; decide); have h3 := (h.ents (3, .pf (fun w => w.heap[gx]? = some (.cells #[sv, iv b.rule, iv b.most] 24 (0, 0))) (· = gx)) (fnd_mem (by kernel_rfl))).1; rw [← e0] at h3; exact h3)) (by kernel_rfl) ?_
  refine WPO_all tt_ok (by kernel_rfl) ?_
  refine WP_cond ((so.length : Int) == (b.loads.length : Int)) (by kernel_rfl) (fun hc2 => ?_) (fun hc2 => ?_)
  · have hc2' := hc2; try simp only [Bool.and_eq_true, Bool.or_eq_true, Bool.and_eq_false_iff, Bool.or_eq_false_iff, Bool.not_eq_true', Bool.not_eq_false', decide_eq_true_eq, decide_eq_false_iff_not, beq_iff_eq, beq_eq_false_iff_ne, bne_iff_ne, bne_eq_false_iff_eq, ne_eq] at hc2'
    refine WP_seq (WP_region (WPO_run tt_ok 3 (by kernel_rfl) ?_))
    refine CALL 99 [.s (.ref 2), .s (.ref 7)] (.s (.bool (containsD S of))) [] (by kernel_rfl) (goes_of (by kernel_rfl)) (by kernel_rfl) (by kernel_rfl) (fun _ nV w h => (by have e9 : nV 7 = .func (.func 100) #[] #[.pointer (some ⟨gt, 0, none⟩)] := h.ents (7, .clo 100 [] [.s (.v (.pointer (some ⟨gt, 0, none⟩)))]) (fnd_mem (by kernel_rfl)); show Calls _ _ #[nV 2, nV 7] _ _; rw [e9]; exact containsD_calls S gt gs (nV 2) of w (h.reads (id := 2) (kd := .ro) (e := 3) (by kernel_rfl)) (h.ents (4, .pf (fun w => w.heap[gt]? = some (.cells #[.map (some gs)] 109 (0, 0))) (· = gt)) (fnd_mem (by kernel_rfl))).1 (h.ents (6, mapF gs S stKey stVal) (fnd_mem (by kernel_rfl))).1)) ?_
    refine WPO_all tt_ok (by kernel_rfl) ?_
    refine WP_ret ?_
    exact ⟨.t [(false, [.ref 1]), (false, [.bool (!(containsD S of))])], by kernel_rfl, fun nV w' h => ⟨nV 1, by rw [show crossS b S F so of = (so, !(containsD S of)) from by unfold crossS; simp only [hc2, cond_true, cond_false]]; rfl, h.bel, by rw [show crossS b S F so of = (so, !(containsD S of)) from by unfold crossS; simp only [hc2, cond_true, cond_false]]; exact h.reads (id := 1) (kd := .ro) (e := 3) (by kernel_rfl), fun g hg => .inl (by have e2 : nV 1 = tv := h.ini 1 (by show 1 < 3; decide); rw [← e2]; exact hg)⟩⟩
  have hc2' := hc2; try simp only [Bool.and_eq_true, Bool.or_eq_true, Bool.and_eq_false_iff, Bool.or_eq_false_iff, Bool.not_eq_true', Bool.not_eq_false', decide_eq_true_eq, decide_eq_false_iff_not, beq_iff_eq, beq_eq_false_iff_ne, bne_iff_ne, bne_eq_false_iff_eq, ne_eq] at hc2'
  refine WP_skip ?_
  refine WP_seq (WP_seq (WP_region (WPO_all tt_ok (by kernel_rfl) ?_)))
  refine WP_loopA (ρ := List Int × Bool) (crossS_c1 b S F so of) (crossS_b1 b S F so of) of.length () (fun k : Nat => (k : Int)) (fun (ci : Int) (zz : Unit) => ⟨57, [(28, [], .s (.int .i64 ci)), (27, [], .s (.int .i64 (of.length : Int))), (9, [], .s (.int .i64 (so.length : Int))), (0, [], .s (.ref 1)), (1, [], .s (.ref 2)), (4, [], .s (.v (.pointer (some ⟨gc, 0, none⟩))))], [(0, .sl .ro 61 3 b.loads encLoad zLoad), (1, .sl .ro 3 1 so encI 0), (2, .sl .ro 3 1 of encI 0), (3, .pf (fun w => w.heap[gx]? = some (.cells #[sv, iv b.rule, iv b.most] 24 (0, 0))) (· = gx)), (4, .pf (fun w => w.heap[gt]? = some (.cells #[.map (some gs)] 109 (0, 0))) (· = gt)), (5, .pf (fun w => w.heap[gc]? = some (.cells #[.func (.func 98) #[] #[.pointer (some ⟨gx, 0, none⟩), .pointer (some ⟨gt, 0, none⟩), .pointer (some ⟨gc, 0, none⟩)]] 112 (0, 0))) (· = gc)), (6, mapF gs S stKey stVal)], 7, []⟩) (fun zz : Unit => ⟨57, [], [(0, .sl .ro 61 3 b.loads encLoad zLoad), (1, .sl .ro 3 1 so encI 0), (2, .sl .ro 3 1 of encI 0), (3, .pf (fun w => w.heap[gx]? = some (.cells #[sv, iv b.rule, iv b.most] 24 (0, 0))) (· = gx)), (4, .pf (fun w => w.heap[gt]? = some (.cells #[.map (some gs)] 109 (0, 0))) (· = gt)), (5, .pf (fun w => w.heap[gc]? = some (.cells #[.func (.func 98) #[] #[.pointer (some ⟨gx, 0, none⟩), .pointer (some ⟨gt, 0, none⟩), .pointer (some ⟨gc, 0, none⟩)]] 112 (0, 0))) (· = gc)), (6, mapF gs S stKey stVal)], 7, []⟩) (fun k zz => True) trivial ⟨0, rfl, Le_sel (ts := [28, 27, 9, 0, 1, 4]) (ids := [0, 1, 2, 3, 4, 5, 6]) (nx := 7) (by kernel_rfl)⟩ ?_ ?_
  · intro k1 zz hn1 hp1 hi1 Q1 hq1 ho1
    refine WP_seq (WP_region (WPO_all tt_ok (by kernel_rfl) ?_))
    refine WP_seq (WP_cond (decide ((k1 : Int) < (of.length : Int))) (by kernel_rfl) (fun hc3 => ?_) (fun hc3 => ?_))
    rotate_left
    · refine WP_exit ?_
      show Q1 (.exit 0) _
      exact LA_exit hq1 () (loopR_end hi1 hc3) ⟨k1, hn1, hp1⟩ (Le_sel (ts := []) (ids := [0, 1, 2, 3, 4, 5, 6]) (nx := 7) (by kernel_rfl))
    have hc3' := of_decide_eq_true hc3
    have hk1 : k1 < of.length := by omega
    refine WP_skip ?_
    refine WP_seq (WP_block ?_)
    refine WP_seq (WP_region (WPO_all tt_ok (by kernel_rfl) ?_))
    refine WP_seq (WP_region (WPO_run tt_ok 1 (by kernel_rfl) ?_))
    refine CALLO 101 [.s (.ref 2)] (.s (.ref 7)) 3 1 (cloneI of) encI 0 7 (by kernel_rfl) (by kernel_rfl) (goes_of (by kernel_rfl)) (by kernel_rfl) (by kernel_rfl) (fun _ => rfl) ((fun nV w h => cloneI_calls (nV 2) of w (h.reads (id := 2) (kd := .ro) (e := 3) (by kernel_rfl)) (by first | assumption | omega))) ?_
    refine WPO_all tt_ok (by kernel_rfl) ?_
    refine WP_seq (WP_drawHM 8 [] [7] (by kernel_rfl) (by kernel_rfl) ?_)
    refine H_run tt_ok [0, 1] (f' := 6) (by kernel_rfl) (by kernel_rfl) (by kernel_rfl) ?_
    refine H_IX tt_ok 2 (k1 : Int) (cloneI of).length [] (by kernel_rfl) (fun hG => ⟨by omega, by omega⟩) (by kernel_rfl) (by kernel_rfl) ?_
    refine H_run tt_ok [3, 4] (f' := 3) (by kernel_rfl) (by kernel_rfl) (by kernel_rfl) ?_
    refine H_BIN 5 .shl 3 (.const (.int .i64 1)) (.tmp 37) (.s (.int .i64 1)) (.s (.int .i64 (so.length : Int))) (.s (.int .i64 (IntKind.i64.wrap (1 * 2 ^ (min (so.length : Int).toNat IntKind.i64.bits))))) [] (by kernel_rfl) (by kernel_rfl) (by kernel_rfl) (fun _ _ => BinOk_shl (by omega)) (by kernel_rfl) (by kernel_rfl) ?_
    refine H_run tt_ok [6] (f' := 1) (by kernel_rfl) (by kernel_rfl) (by kernel_rfl) ?_
    refine H_IX tt_ok 7 (k1 : Int) (cloneI of).length [] (by kernel_rfl) (fun hG => ⟨by omega, by omega⟩) (by kernel_rfl) (by kernel_rfl) ?_
    refine H_done (by kernel_rfl) ?_
    refine ⟨(by kernel_rfl), ?_⟩
    refine H_step 8 (by kernel_rfl) (by kernel_rfl) (fun hfz cx' hx1 hx2 => ?_)
    refine EST tt_ok 7 (k1 : Int) 1 0 3 3 (cloneI of) encI 0 (IntKind.i64.wrap (BitVec.ofInt IntKind.i64.bits ((cloneI of).getD k1 0) ||| BitVec.ofInt IntKind.i64.bits (IntKind.i64.wrap (1 * 2 ^ (min (so.length : Int).toNat IntKind.i64.bits)))).toNat) (.s (.int .i64 (IntKind.i64.wrap (BitVec.ofInt IntKind.i64.bits ((cloneI of).getD k1 0) ||| BitVec.ofInt IntKind.i64.bits (IntKind.i64.wrap (1 * 2 ^ (min (so.length : Int).toNat IntKind.i64.bits)))).toNat))) (by kernel_rfl) (by kernel_rfl) (by kernel_rfl) (by kernel_rfl) ⟨by omega, by omega⟩ (fun n => rfl) ?_
    refine WPO_end (by kernel_rfl) ⟨rfl, (hfz.fnds [0, 1, 2, 3, 4, 5, 6] (by kernel_rfl) ⟨by kernel_rfl, by kernel_rfl, by kernel_rfl, by kernel_rfl, by kernel_rfl, by kernel_rfl, by kernel_rfl, trivial⟩ (by kernel_rfl)), ?_⟩
    refine H_done (by kernel_rfl) ?_
    refine WP_seq (WP_toX (σ := Value) (fun sv5 => ⟨57, [(13, [], .s (.bool (F ((cut so 0 (so.length : Int)) ++ ([(k1 : Int)])) ((cloneI of).set k1 (IntKind.i64.wrap (BitVec.ofInt IntKind.i64.bits ((cloneI of).getD k1 0) ||| BitVec.ofInt IntKind.i64.bits (IntKind.i64.wrap (1 * 2 ^ (min (so.length : Int).toNat IntKind.i64.bits)))).toNat))).2)), (12, [], .s (.v sv5)), (28, [], .s (.int .i64 (k1 : Int))), (27, [], .s (.int .i64 (of.length : Int))), (9, [], .s (.int .i64 (so.length : Int))), (0, [], .s (.ref 1)), (1, [], .s (.ref 2)), (4, [], .s (.v (.pointer (some ⟨gc, 0, none⟩))))], [(11, slE sv5 1 (F ((cut so 0 (so.length : Int)) ++ ([(k1 : Int)])) ((cloneI of).set k1 (IntKind.i64.wrap (BitVec.ofInt IntKind.i64.bits ((cloneI of).getD k1 0) ||| BitVec.ofInt IntKind.i64.bits (IntKind.i64.wrap (1 * 2 ^ (min (so.length : Int).toNat IntKind.i64.bits)))).toNat))).1 encI 0), (7, .sl .own 3 1 ((cloneI of).set k1 (IntKind.i64.wrap (BitVec.ofInt IntKind.i64.bits ((cloneI of).getD k1 0) ||| BitVec.ofInt IntKind.i64.bits (IntKind.i64.wrap (1 * 2 ^ (min (so.length : Int).toNat IntKind.i64.bits)))).toNat)) encI 0), (0, .sl .ro 61 3 b.loads encLoad zLoad), (1, .sl .ro 3 1 so encI 0), (2, .sl .ro 3 1 of encI 0), (3, .pf (fun w => w.heap[gx]? = some (.cells #[sv, iv b.rule, iv b.most] 24 (0, 0))) (· = gx)), (4, .pf (fun w => w.heap[gt]? = some (.cells #[.map (some gs)] 109 (0, 0))) (· = gt)), (5, .pf (fun w => w.heap[gc]? = some (.cells #[.func (.func 98) #[] #[.pointer (some ⟨gx, 0, none⟩), .pointer (some ⟨gt, 0, none⟩), .pointer (some ⟨gc, 0, none⟩)]] 112 (0, 0))) (· = gc)), (6, mapF gs S stKey stVal)], 12, []⟩) ?_ ?_)
    · refine WP_drawH [] (by kernel_rfl) (by kernel_rfl) ?_
      refine H_LDG tt_ok 0 112 gc 0 (some 42) [.v (.func (.func 98) #[] #[.pointer (some ⟨gx, 0, none⟩), .pointer (some ⟨gt, 0, none⟩), .pointer (some ⟨gc, 0, none⟩)])] 112 (.s (.v (.func (.func 98) #[] #[.pointer (some ⟨gx, 0, none⟩), .pointer (some ⟨gt, 0, none⟩), .pointer (some ⟨gc, 0, none⟩)]))) (by kernel_rfl) (by kernel_rfl) (by kernel_rfl) (fun _ nV w h => (h.ents (5, .pf (fun w => w.heap[gc]? = some (.cells #[.func (.func 98) #[] #[.pointer (some ⟨gx, 0, none⟩), .pointer (some ⟨gt, 0, none⟩), .pointer (some ⟨gc, 0, none⟩)]] 112 (0, 0))) (· = gc)) (fnd_mem (by kernel_rfl))).1) (by kernel_rfl) (by kernel_rfl) (by kernel_rfl) ?_
      refine H_run tt_ok [1, 2, 3, 5, 8] (f' := 9) (by kernel_rfl) (by kernel_rfl) (by kernel_rfl) ?_
      refine H_two 4 6 (by kernel_rfl) (by kernel_rfl) (by kernel_rfl) (fun hfz cx' hx1 hx2 => ?_) (fun hfz cx' hx1 hx2 => ?_)
      · refine SLC tt_ok 1 so.length .ro 3 1 0 (so.length : Int) (some (so.length : Int)) .full (some 46) (by kernel_rfl) (by kernel_rfl) ⟨by omega, by omega, by omega⟩ (.inr ⟨rfl, rfl⟩) ?_
        refine WPO_end (by kernel_rfl) ⟨rfl, (hfz.fnds [7, 0, 1, 2, 3, 4, 5, 6] (by kernel_rfl) ⟨by kernel_rfl, by kernel_rfl, by kernel_rfl, by kernel_rfl, by kernel_rfl, by kernel_rfl, by kernel_rfl, by kernel_rfl, trivial⟩ (by kernel_rfl)), ?_⟩
        refine H_step 6 (by kernel_rfl) (by kernel_rfl) (fun hfz cx' hx1 hx2 => ?_)
        refine LIT tt_ok (by kernel_rfl) ?_
        refine LITSL 9 3 1 1 [.int .i64 (k1 : Int)] [(k1 : Int)] encI 0 (by kernel_rfl) rfl (fun _ => rfl) (fun n => rfl) ?_
        refine WPO_end (by kernel_rfl) ⟨rfl, (hfz.fnds [7, 0, 1, 2, 3, 4, 5, 6] (by kernel_rfl) ⟨by kernel_rfl, by kernel_rfl, by kernel_rfl, by kernel_rfl, by kernel_rfl, by kernel_rfl, by kernel_rfl, by kernel_rfl, trivial⟩ (by kernel_rfl)), ?_⟩
        refine H_step 7 (by kernel_rfl) (by kernel_rfl) (fun hfz cx' hx1 hx2 => ?_)
        refine APP tt_ok (.s (.ref 8)) (.s (.ref 9)) 33 3 (some 49) 1 (cut so 0 (so.length : Int)) ([(k1 : Int)]) encI 0 (by kernel_rfl) (by kernel_rfl) (by kernel_rfl) (by kernel_rfl) (.inr (.inr ⟨8, rfl, (by kernel_rfl)⟩)) (.inr ⟨9, .own, rfl, (by kernel_rfl), (by simp only [List.length_cons, List.length_nil]; omega)⟩) (by simp) (fun y => rfl) (fun y => List.all_eq_true.1 rfl) (fun i hi => (by have hby : (tyL tt 3).map (·.bytes) = some 8 := (by kernel_rfl); rw [hi] at hby; simp only [Option.map_some, Option.some.injEq] at hby; rw [hby]; simp only [List.length_append, List.length_cons, List.length_nil]; omega)) ?_
        refine WPO_end (by kernel_rfl) ⟨rfl, (hfz.fnds [7, 0, 1, 2, 3, 4, 5, 6] (by kernel_rfl) ⟨by kernel_rfl, by kernel_rfl, by kernel_rfl, by kernel_rfl, by kernel_rfl, by kernel_rfl, by kernel_rfl, by kernel_rfl, trivial⟩ (by kernel_rfl)), ?_⟩
        refine H_step 9 (by kernel_rfl) (by kernel_rfl) (fun hfz cx' hx1 hx2 => ?_)
        refine CALLTK 98 [.s (.ref 10), .s (.ref 7), .s (.v (.pointer (some ⟨gx, 0, none⟩))), .s (.v (.pointer (some ⟨gt, 0, none⟩))), .s (.v (.pointer (some ⟨gc, 0, none⟩)))] (fun sv7 => .t [(false, [.v sv7]), (false, [.bool (F ((cut so 0 (so.length : Int)) ++ ([(k1 : Int)])) ((cloneI of).set k1 (IntKind.i64.wrap (BitVec.ofInt IntKind.i64.bits ((cloneI of).getD k1 0) ||| BitVec.ofInt IntKind.i64.bits (IntKind.i64.wrap (1 * 2 ^ (min (so.length : Int).toNat IntKind.i64.bits)))).toNat))).2])]) 10 3 1 ((cut so 0 (so.length : Int)) ++ ([(k1 : Int)])) encI 0 1 (F ((cut so 0 (so.length : Int)) ++ ([(k1 : Int)])) ((cloneI of).set k1 (IntKind.i64.wrap (BitVec.ofInt IntKind.i64.bits ((cloneI of).getD k1 0) ||| BitVec.ofInt IntKind.i64.bits (IntKind.i64.wrap (1 * 2 ^ (min (so.length : Int).toNat IntKind.i64.bits)))).toNat))).1 encI 0 (by kernel_rfl) (by kernel_rfl) (goes_of (by kernel_rfl)) (fun _ => (by kernel_rfl)) (fun _ => (by kernel_rfl)) (fun _ _ _ => rfl) (fun nV w h => (by have e0 : nV 0 = sv := (h.ini 0 (Nat.lt_of_lt_of_le (by show 0 < 3; decide) hx2.2.2)).trans (hx2.2.1 0 (by show 0 < 3; decide)); exact hF (nV 10) (nV 7) _ _ w (hR1 _ _ _ (by omega)) (by rw [← e0]; exact h.reads (id := 0) (kd := .ro) (e := 61) (by kernel_rfl)) (h.reads (id := 10) (kd := .own) (e := 3) (by kernel_rfl)) (h.reads (id := 7) (kd := .own) (e := 3) (by kernel_rfl)) (h.ents (3, .pf (fun w => w.heap[gx]? = some (.cells #[sv, iv b.rule, iv b.most] 24 (0, 0))) (· = gx)) (fnd_mem (by kernel_rfl))).1 (h.ents (4, .pf (fun w => w.heap[gt]? = some (.cells #[.map (some gs)] 109 (0, 0))) (· = gt)) (fnd_mem (by kernel_rfl))).1 (h.ents (5, .pf (fun w => w.heap[gc]? = some (.cells #[.func (.func 98) #[] #[.pointer (some ⟨gx, 0, none⟩), .pointer (some ⟨gt, 0, none⟩), .pointer (some ⟨gc, 0, none⟩)]] 112 (0, 0))) (· = gc)) (fnd_mem (by kernel_rfl))).1 (h.ents (6, mapF gs S stKey stVal) (fnd_mem (by kernel_rfl))).1)) (fun sv7 => ?_)
        refine WPO_end (by kernel_rfl) ⟨rfl, (hfz.fnds [7, 0, 1, 2, 3, 4, 5, 6] (by kernel_rfl) ⟨by kernel_rfl, by kernel_rfl, by kernel_rfl, by kernel_rfl, by kernel_rfl, by kernel_rfl, by kernel_rfl, by kernel_rfl, trivial⟩ (by kernel_rfl)), ?_⟩
        refine H_run tt_ok [10, 11, 12, 13, 14] (f' := 0) (by kernel_rfl) (by kernel_rfl) (by kernel_rfl) ?_
        refine H_done (by kernel_rfl) ?_
        exact ⟨sv7, Le_sel (ts := [13, 12, 28, 27, 9, 0, 1, 4]) (ids := [11, 7, 0, 1, 2, 3, 4, 5, 6]) (nx := 12) (by kernel_rfl)⟩
      · refine LIT tt_ok (by kernel_rfl) ?_
        refine LITSL 8 3 1 1 [.int .i64 (k1 : Int)] [(k1 : Int)] encI 0 (by kernel_rfl) rfl (fun _ => rfl) (fun n => rfl) ?_
        refine WPO_end (by kernel_rfl) ⟨rfl, (hfz.fnds [7, 0, 1, 2, 3, 4, 5, 6] (by kernel_rfl) ⟨by kernel_rfl, by kernel_rfl, by kernel_rfl, by kernel_rfl, by kernel_rfl, by kernel_rfl, by kernel_rfl, by kernel_rfl, trivial⟩ (by kernel_rfl)), ?_⟩
        refine H_step 4 (by kernel_rfl) (by kernel_rfl) (fun hfz cx' hx1 hx2 => ?_)
        refine SLC tt_ok 1 so.length .ro 3 1 0 (so.length : Int) (some (so.length : Int)) .full (some 46) (by kernel_rfl) (by kernel_rfl) ⟨by omega, by omega, by omega⟩ (.inr ⟨rfl, rfl⟩) ?_
        refine WPO_end (by kernel_rfl) ⟨rfl, (hfz.fnds [7, 0, 1, 2, 3, 4, 5, 6] (by kernel_rfl) ⟨by kernel_rfl, by kernel_rfl, by kernel_rfl, by kernel_rfl, by kernel_rfl, by kernel_rfl, by kernel_rfl, by kernel_rfl, trivial⟩ (by kernel_rfl)), ?_⟩
        refine H_step 7 (by kernel_rfl) (by kernel_rfl) (fun hfz cx' hx1 hx2 => ?_)
        refine APP tt_ok (.s (.ref 9)) (.s (.ref 8)) 33 3 (some 49) 1 (cut so 0 (so.length : Int)) ([(k1 : Int)]) encI 0 (by kernel_rfl) (by kernel_rfl) (by kernel_rfl) (by kernel_rfl) (.inr (.inr ⟨9, rfl, (by kernel_rfl)⟩)) (.inr ⟨8, .own, rfl, (by kernel_rfl), (by simp only [List.length_cons, List.length_nil]; omega)⟩) (by simp) (fun y => rfl) (fun y => List.all_eq_true.1 rfl) (fun i hi => (by have hby : (tyL tt 3).map (·.bytes) = some 8 := (by kernel_rfl); rw [hi] at hby; simp only [Option.map_some, Option.some.injEq] at hby; rw [hby]; simp only [List.length_append, List.length_cons, List.length_nil]; omega)) ?_
        refine WPO_end (by kernel_rfl) ⟨rfl, (hfz.fnds [7, 0, 1, 2, 3, 4, 5, 6] (by kernel_rfl) ⟨by kernel_rfl, by kernel_rfl, by kernel_rfl, by kernel_rfl, by kernel_rfl, by kernel_rfl, by kernel_rfl, by kernel_rfl, trivial⟩ (by kernel_rfl)), ?_⟩
        refine H_step 9 (by kernel_rfl) (by kernel_rfl) (fun hfz cx' hx1 hx2 => ?_)
        refine CALLTK 98 [.s (.ref 10), .s (.ref 7), .s (.v (.pointer (some ⟨gx, 0, none⟩))), .s (.v (.pointer (some ⟨gt, 0, none⟩))), .s (.v (.pointer (some ⟨gc, 0, none⟩)))] (fun sv8 => .t [(false, [.v sv8]), (false, [.bool (F ((cut so 0 (so.length : Int)) ++ ([(k1 : Int)])) ((cloneI of).set k1 (IntKind.i64.wrap (BitVec.ofInt IntKind.i64.bits ((cloneI of).getD k1 0) ||| BitVec.ofInt IntKind.i64.bits (IntKind.i64.wrap (1 * 2 ^ (min (so.length : Int).toNat IntKind.i64.bits)))).toNat))).2])]) 10 3 1 ((cut so 0 (so.length : Int)) ++ ([(k1 : Int)])) encI 0 1 (F ((cut so 0 (so.length : Int)) ++ ([(k1 : Int)])) ((cloneI of).set k1 (IntKind.i64.wrap (BitVec.ofInt IntKind.i64.bits ((cloneI of).getD k1 0) ||| BitVec.ofInt IntKind.i64.bits (IntKind.i64.wrap (1 * 2 ^ (min (so.length : Int).toNat IntKind.i64.bits)))).toNat))).1 encI 0 (by kernel_rfl) (by kernel_rfl) (goes_of (by kernel_rfl)) (fun _ => (by kernel_rfl)) (fun _ => (by kernel_rfl)) (fun _ _ _ => rfl) (fun nV w h => (by have e0 : nV 0 = sv := (h.ini 0 (Nat.lt_of_lt_of_le (by show 0 < 3; decide) hx2.2.2)).trans (hx2.2.1 0 (by show 0 < 3; decide)); exact hF (nV 10) (nV 7) _ _ w (hR1 _ _ _ (by omega)) (by rw [← e0]; exact h.reads (id := 0) (kd := .ro) (e := 61) (by kernel_rfl)) (h.reads (id := 10) (kd := .own) (e := 3) (by kernel_rfl)) (h.reads (id := 7) (kd := .own) (e := 3) (by kernel_rfl)) (h.ents (3, .pf (fun w => w.heap[gx]? = some (.cells #[sv, iv b.rule, iv b.most] 24 (0, 0))) (· = gx)) (fnd_mem (by kernel_rfl))).1 (h.ents (4, .pf (fun w => w.heap[gt]? = some (.cells #[.map (some gs)] 109 (0, 0))) (· = gt)) (fnd_mem (by kernel_rfl))).1 (h.ents (5, .pf (fun w => w.heap[gc]? = some (.cells #[.func (.func 98) #[] #[.pointer (some ⟨gx, 0, none⟩), .pointer (some ⟨gt, 0, none⟩), .pointer (some ⟨gc, 0, none⟩)]] 112 (0, 0))) (· = gc)) (fnd_mem (by kernel_rfl))).1 (h.ents (6, mapF gs S stKey stVal) (fnd_mem (by kernel_rfl))).1)) (fun sv8 => ?_)
        refine WPO_end (by kernel_rfl) ⟨rfl, (hfz.fnds [7, 0, 1, 2, 3, 4, 5, 6] (by kernel_rfl) ⟨by kernel_rfl, by kernel_rfl, by kernel_rfl, by kernel_rfl, by kernel_rfl, by kernel_rfl, by kernel_rfl, by kernel_rfl, trivial⟩ (by kernel_rfl)), ?_⟩
        refine H_run tt_ok [10, 11, 12, 13, 14] (f' := 0) (by kernel_rfl) (by kernel_rfl) (by kernel_rfl) ?_
        refine H_done (by kernel_rfl) ?_
        exact ⟨sv8, Le_sel (ts := [13, 12, 28, 27, 9, 0, 1, 4]) (ids := [11, 7, 0, 1, 2, 3, 4, 5, 6]) (nx := 12) (by kernel_rfl)⟩
    intro sv5
    refine WP_seq (WP_region (WPO_all tt_ok (by kernel_rfl) ?_))
    refine WP_cond ((F ((cut so 0 (so.length : Int)) ++ ([(k1 : Int)])) ((cloneI of).set k1 (IntKind.i64.wrap (BitVec.ofInt IntKind.i64.bits ((cloneI of).getD k1 0) ||| BitVec.ofInt IntKind.i64.bits (IntKind.i64.wrap (1 * 2 ^ (min (so.length : Int).toNat IntKind.i64.bits)))).toNat))).2) (by kernel_rfl) (fun hc5 => ?_) (fun hc5 => ?_)
    · have hc5' := hc5; try simp only [Bool.and_eq_true, Bool.or_eq_true, Bool.and_eq_false_iff, Bool.or_eq_false_iff, Bool.not_eq_true', Bool.not_eq_false', decide_eq_true_eq, decide_eq_false_iff_not, beq_iff_eq, beq_eq_false_iff_ne, bne_iff_ne, bne_eq_false_iff_eq, ne_eq] at hc5'
      refine WP_seq (WP_region (WPO_all tt_ok (by kernel_rfl) ?_))
      refine WP_ret ?_
      show Q1 .ret _
      refine LA_ret hq1 ?_
      have he6 := loopR_ret (r := ((F ((cut so 0 (so.length : Int)) ++ ([(k1 : Int)])) ((cloneI of).set k1 (IntKind.i64.wrap (BitVec.ofInt IntKind.i64.bits ((cloneI of).getD k1 0) ||| BitVec.ofInt IntKind.i64.bits (IntKind.i64.wrap (1 * 2 ^ (min (so.length : Int).toNat IntKind.i64.bits)))).toNat))).1, true)) hi1 hk1 hc3 (by unfold crossS_b1; simp only [hc5, cond_true, cond_false])
      exact ⟨.t [(false, [.v sv5]), (false, [.bool true])], by kernel_rfl, fun nV w' h => ⟨sv5, by rw [show crossS b S F so of = ((F ((cut so 0 (so.length : Int)) ++ ([(k1 : Int)])) ((cloneI of).set k1 (IntKind.i64.wrap (BitVec.ofInt IntKind.i64.bits ((cloneI of).getD k1 0) ||| BitVec.ofInt IntKind.i64.bits (IntKind.i64.wrap (1 * 2 ^ (min (so.length : Int).toNat IntKind.i64.bits)))).toNat))).1, true) from by unfold crossS; simp only [hc2, he6, cond_true, cond_false]]; rfl, h.bel, by rw [show crossS b S F so of = ((F ((cut so 0 (so.length : Int)) ++ ([(k1 : Int)])) ((cloneI of).set k1 (IntKind.i64.wrap (BitVec.ofInt IntKind.i64.bits ((cloneI of).getD k1 0) ||| BitVec.ofInt IntKind.i64.bits (IntKind.i64.wrap (1 * 2 ^ (min (so.length : Int).toNat IntKind.i64.bits)))).toNat))).1, true) from by unfold crossS; simp only [hc2, he6, cond_true, cond_false]]; exact (slE_lt (id := 11) (v := sv5) (sz := 1) (li := (F ((cut so 0 (so.length : Int)) ++ ([(k1 : Int)])) ((cloneI of).set k1 (IntKind.i64.wrap (BitVec.ofInt IntKind.i64.bits ((cloneI of).getD k1 0) ||| BitVec.ofInt IntKind.i64.bits (IntKind.i64.wrap (1 * 2 ^ (min (so.length : Int).toNat IntKind.i64.bits)))).toNat))).1) (enc := encI) (z := 0) h (by kernel_rfl)).1, fun g hg => .inr ((slE_lt (id := 11) (v := sv5) (sz := 1) (li := (F ((cut so 0 (so.length : Int)) ++ ([(k1 : Int)])) ((cloneI of).set k1 (IntKind.i64.wrap (BitVec.ofInt IntKind.i64.bits ((cloneI of).getD k1 0) ||| BitVec.ofInt IntKind.i64.bits (IntKind.i64.wrap (1 * 2 ^ (min (so.length : Int).toNat IntKind.i64.bits)))).toNat))).1) (enc := encI) (z := 0) h (by kernel_rfl)).2 g hg)⟩⟩
    have hc5' := hc5; try simp only [Bool.and_eq_true, Bool.or_eq_true, Bool.and_eq_false_iff, Bool.or_eq_false_iff, Bool.not_eq_true', Bool.not_eq_false', decide_eq_true_eq, decide_eq_false_iff_not, beq_iff_eq, beq_eq_false_iff_ne, bne_iff_ne, bne_eq_false_iff_eq, ne_eq] at hc5'
    refine WP_skip ?_
    refine WP_region (WPO_all tt_ok (by kernel_rfl) ?_)
    show Q1 .normal _
    exact LA_go hq1 (ci := IntKind.i64.wrap ((k1 : Int) + 1)) () hk1 (by show _ = ((k1 + 1 : Nat) : Int); rw [wrapI (by omega) (by omega)]; omega) (loopR_go hi1 hk1 hc3 (by unfold crossS_b1; simp only [hc5, cond_true, cond_false])) trivial (Le_sel (ts := [28, 27, 9, 0, 1, 4]) (ids := [0, 1, 2, 3, 4, 5, 6]) (nx := 7) (by kernel_rfl))
  intro zz hR1 hP1 s' hl
  refine WP_le hl ?_
  clear hl s'
  refine WP_seq (WP_region (WPO_all tt_ok (by kernel_rfl) ?_))
  refine WP_ret ?_
  exact ⟨.t [(false, [.v (.slice none 0 0)]), (false, [.bool false])], by kernel_rfl, fun nV w' h => ⟨.slice none 0 0, by rw [show crossS b S F so of = ([], false) from by unfold crossS; simp only [hc2, hR1, cond_true, cond_false]]; rfl, h.bel, by rw [show crossS b S F so of = ([], false) from by unfold crossS; simp only [hc2, hR1, cond_true, cond_false]]; exact reads_nil, fun g hg => by cases hg⟩⟩
end Go.Proofs.YthfnedbpmdkdjaaDoor.D
namespace Go.Proofs.YthfnedbpmdkdjaaDoor.D
open Go Go.RowKit Go.Proofs.YthfnedbpmdkdjaaDoor.Eng Go.Proofs.YthfnedbpmdkdjaaDoor.Cm
set_option linter.unusedVariables false
set_option linter.unusedSimpArgs false
set_option linter.unusedSectionVars false
def crossD (b : DBook) (S : List (Int × Bool)) : Nat → List Int → List Int → List Int × Bool
  | 0 => crossS b S fun _ _ => ([], false)
  | r + 1 => crossS b S (crossD b S r)
theorem cross_ok {b : DBook} (S : List (Int × Bool)) (hb5 : b.loads.length ≤ 5) (sv : Value) (gx gt gs gc : Nat) : ∀ r : Nat, CrossC b S sv gx gt gs gc (fun n m => n + r = b.loads.length ∧ m ≤ 5) (crossD b S r) := by
  intro r
  induction r with
  | zero =>
    intro tv uv so of w hR rb rs ro hx hs hc hms
    exact crossS_calls b S (fun _ _ => ([], false)) (fun _ _ => False) so of sv tv uv gx gt gs gc w rb rs ro hx hs hc hms hb5 (by omega) hR.2 (fun _ _ _ _ _ h => h.elim) (fun h => by omega)
  | succ r ih =>
    intro tv uv so of w hR rb rs ro hx hs hc hms
    exact crossS_calls b S (crossD b S r) (fun n m => n + r = b.loads.length ∧ m ≤ 5) so of sv tv uv gx gt gs gc w rb rs ro hx hs hc hms hb5 (by omega) hR.2 ih (fun h => ⟨by omega, hR.2⟩)
theorem cross_top {b : DBook} (S : List (Int × Bool)) (hb5 : b.loads.length ≤ 5) (a0 uv x t c cl : Value) (gx gt gs gc : Nat) (of : List Int) (w : World) (hof : of.length ≤ 5) (rb : Reads w a0 3 b.loads encLoad zLoad) (ro : Reads w uv 1 of encI 0) (hms : w.heap[gs]? = some (.map (ents S stKey stVal) S.length)) (hx : x = .pointer (some ⟨gx, 0, none⟩)) (ht : t = .pointer (some ⟨gt, 0, none⟩)) (hc : c = .pointer (some ⟨gc, 0, none⟩))
    (hxh : w.heap[gx]? = some (.cells #[a0, iv b.rule, iv b.most] 24 (0, 0))) (hth : w.heap[gt]? = some (.cells #[.map (some gs)] 109 (0, 0))) (hcl : cl = .func (.func 98) #[] #[ptrAt x 0, ptrAt t 0, ptrAt c 0]) (hch : w.heap[gc]? = some (.cells #[cl] 112 (0, 0))) :
    Calls Tryd.prog 98 #[.slice none 0 0, uv, ptrAt x 0, ptrAt t 0, ptrAt c 0] w fun e w' => ∃ v, e = .returned (.tuple #[v, .bool (crossD b S b.loads.length [] of).2]) ∧ Below w.heap.size w w' ∧ Reads w' v 1 (crossD b S b.loads.length [] of).1 encI 0 ∧ (∀ g, vblk v = some g → w.heap.size ≤ g ∧ g < w'.heap.size) := by
  subst hx ht hc
  simp only [ptrAt, Nat.add_zero] at *
  subst hcl
  have h5 := cross_ok S hb5 a0 gx gt gs gc b.loads.length (.slice none 0 0) uv [] of w ⟨by simp, hof⟩ rb reads_nil ro hxh hth hch hms
  exact h5.mono fun e w' ⟨v, h1, h2, h3, h4⟩ => ⟨v, h1, h2, h3, fun g hg => (h4 g hg).resolve_left (fun h => by cases h)⟩
def fewestA_c1 (b : DBook) (k1 : Nat) : (List (Int × Bool)) → Bool := fun v1_1 => decide ((k1 : Int) < (IntKind.i64.wrap ((allD b) + 1)))
def fewestA_b1 (b : DBook) (k1 : Nat) : (List (Int × Bool)) → Bd (List (Int × Bool)) ((List Int) × Int) := fun v1_1 => .go (v1_1 ++ [(((k1 : Int), (togetherD b (k1 : Int))) : Int × Bool)])
def fewestA_c2 (b : DBook) (u1_0 : List (Int × Bool)) (k2 : Nat) : Unit → Bool := fun _ => decide ((k2 : Int) < (b.loads.length : Int))
def fewestA_b2 (b : DBook) (u1_0 : List (Int × Bool)) (k2 : Nat) : Unit → Bd Unit ((List Int) × Int) := fun _ => (bif (crossD b u1_0 b.loads.length [] (List.replicate (IntKind.i64.wrap ((k2 : Int) + 1)).toNat 0)).2 then .ret ((crossD b u1_0 b.loads.length [] (List.replicate (IntKind.i64.wrap ((k2 : Int) + 1)).toNat 0)).1, 0) else .go ())
def fewestA (b : DBook) : (List Int) × Int :=
  (bif (checkD b) != 0 then ([], (checkD b)) else (match loopR (fewestA_c1 b) (fewestA_b1 b) (2 ^ b.loads.length) 0 ([] : List (Int × Bool)) with | .brk u1_0 => (match loopR (fewestA_c2 b u1_0) (fewestA_b2 b u1_0) b.loads.length 0 () with | .brk () => ([], 4) | .ret r => r) | .ret r => r))
theorem fewestA_calls (g0 : Value) (b : DBook) (w : World) (r0 : Reads w g0 3 b.loads encLoad zLoad) (hnb : NobodyAt w) (hla : LanesAt w) : Calls Tryd.prog 46 #[.agg #[g0, iv b.rule, iv b.most]] w fun e w' => ∃ v0, e = .returned (.tuple #[v0, iv (fewestA b).2]) ∧ Below w.heap.size w w' ∧ Reads w' v0 1 (fewestA b).1 encI 0 ∧ (∀ g, vblk v0 = some g → w.heap.size ≤ g ∧ g < w'.heap.size) := by
  refine calls_of_WP (cx := cx0 w (vn [g0]) 1) (n := vn [g0]) (vs := [.g [.ref 0, .int .i64 b.rule, .int .i64 b.most]]) (hp := [(0, .sl .ro 61 3 b.loads encLoad zLoad), (1, .pf NobodyAt (· = 1)), (2, .pf LanesAt (· = 0))]) (nx := 3) tt_ok Tryd.func46 rfl rfl rfl (by kernel_rfl) (HSat_args (vn_one (by simp [r0.one])) (by decide) ⟨⟨⟨fun _ => rfl, by decide, r0⟩, (Nat.le_of_ble_eq_true rfl)⟩, ⟨⟨hnb, fun w1 w2 h1 hw => (hw 1 rfl).trans h1, fun g hg => by cases hg; exact (Array.getElem?_eq_some_iff.1 hnb).1⟩, (Nat.le_of_ble_eq_true rfl)⟩, ⟨⟨hla, fun w1 w2 h1 hw => (hw 0 rfl).trans h1, fun g hg => by cases hg; exact (Array.getElem?_eq_some_iff.1 hla).1⟩, (Nat.le_of_ble_eq_true rfl)⟩, trivial⟩) (vsOk (by kernel_rfl)) ?_
  have hl0 := Reads.len r0
  refine WP_seq (WP_region (WPO_all tt_ok (by kernel_rfl) ?_))
  refine WP_seq (WP_seq (WP_region (WPO_run tt_ok 1 (by kernel_rfl) ?_)))
  refine CALL 66 [.g [.ref 0, .int .i64 b.rule, .int .i64 b.most]] (.s (.int .i64 (checkD b))) [] (by kernel_rfl) (goes_of (by kernel_rfl)) (by kernel_rfl) (by kernel_rfl) (fun _ nV w h => checkD_calls (nV 0) b w (h.reads (id := 0) (kd := .ro) (e := 61) (by kernel_rfl)) ) ?_
  refine WPO_all tt_ok (by kernel_rfl) ?_
  refine WP_seq (WP_region (WPO_all tt_ok (by kernel_rfl) ?_))
  refine WP_cond ((checkD b) != 0) (by kernel_rfl) (fun hc2 => ?_) (fun hc2 => ?_)
  · have hc2' := hc2; try simp only [Bool.and_eq_true, Bool.or_eq_true, Bool.and_eq_false_iff, Bool.or_eq_false_iff, Bool.not_eq_true', Bool.not_eq_false', decide_eq_true_eq, decide_eq_false_iff_not, beq_iff_eq, beq_eq_false_iff_ne, bne_iff_ne, bne_eq_false_iff_eq, ne_eq] at hc2'
    refine WP_seq (WP_region (WPO_all tt_ok (by kernel_rfl) ?_))
    refine WP_ret ?_
    exact ⟨.t [(false, [.v (.slice none 0 0)]), (false, [.int .i64 (checkD b)])], by kernel_rfl, fun nV w' h => ⟨.slice none 0 0, by rw [show fewestA b = ([], (checkD b)) from by unfold fewestA; simp only [hc2, cond_true, cond_false]]; rfl, h.bel, by rw [show fewestA b = ([], (checkD b)) from by unfold fewestA; simp only [hc2, cond_true, cond_false]]; exact reads_nil, fun g hg => by cases hg⟩⟩
  have hc2' := hc2; try simp only [Bool.and_eq_true, Bool.or_eq_true, Bool.and_eq_false_iff, Bool.or_eq_false_iff, Bool.not_eq_true', Bool.not_eq_false', decide_eq_true_eq, decide_eq_false_iff_not, beq_iff_eq, beq_eq_false_iff_ne, bne_iff_ne, bne_eq_false_iff_eq, ne_eq] at hc2'
  refine WP_skip ?_
  have hv : ValidD b := checkD_valid.1 (bne_eq_false_iff_eq.1 (by assumption))
  have hb5 := hv.n.2
  have hpw := all_wrap hb5
  have hpl := pow_le5 hb5
  refine WP_seq (WP_region (WPO_run tt_ok 1 (by kernel_rfl) ?_))
  refine CALLMAP 90 [.g [.ref 0, .int .i64 b.rule, .int .i64 b.most]] (plL b) plKey plVal (fun gM1 => .g [.ref 0, .int .i64 b.rule, .int .i64 b.most, .v (.map (some gM1))]) (by kernel_rfl) (goes_of (by kernel_rfl)) (fun _ => (by kernel_rfl)) (fun _ => (by kernel_rfl)) (fun _ n n' h => by simp only [AV.c, cellsV, part1, AC.c, List.map_cons, List.map_nil, h 0 (by show 0 < 4; decide)]) (fun nV w h => opened_plL (nV 0) b w (h.reads (id := 0) (kd := .ro) (e := 61) (by kernel_rfl)) (h.ents (1, .pf NobodyAt (· = 1)) (fnd_mem (by kernel_rfl))).1 (by first | assumption | omega)) (fun gM1 => ?_)
  refine WPO_all tt_ok (by kernel_rfl) ?_
  refine WP_seq (WP_region (MKMg (κ := (Int × Bool)) stKey stVal (some 19) (by kernel_rfl) (fun _ => (by kernel_rfl)) (fun gM2 => ?_)))
  refine WPO_all tt_ok (by kernel_rfl) ?_
  refine WP_seq (WP_seq (WP_region (WPO_run tt_ok 1 (by kernel_rfl) ?_)))
  refine CALL 96 [.g [.ref 0, .int .i64 b.rule, .int .i64 b.most, .v (.map (some gM1))]] (.s (.int .i64 (allD b))) [] (by kernel_rfl) (goes_of (by kernel_rfl)) (by kernel_rfl) (by kernel_rfl) (fun _ nV w h => allD_calls (nV 0) gM1 b w (h.reads (id := 0) (kd := .ro) (e := 61) (by kernel_rfl)) (h.ents (4, mapE gM1 (plL b) plKey plVal) (fnd_mem (by kernel_rfl))).1 (by first | assumption | omega)) ?_
  refine WPO_all tt_ok (by kernel_rfl) ?_
  refine WP_loopA (ρ := (List Int) × Int) (fewestA_c1 b) (fewestA_b1 b) (2 ^ b.loads.length) ([] : List (Int × Bool)) (fun k : Nat => (k : Int)) (fun (ci : Int) (zz : (List (Int × Bool))) => ⟨55, [(23, [], .s (.int .i64 ci)), (22, [], .s (.int .i64 (IntKind.i64.wrap ((allD b) + 1)))), (6, [], .s (.p 7 0)), (5, [], .s (.p 5 0)), (1, [], .s (.p 3 0))], [(7, .box 109 [.v (.map (some gM2))]), (6, mapE gM2 zz stKey stVal), (5, .box 94 [.ref 0, .int .i64 b.rule, .int .i64 b.most, .v (.map (some gM1))]), (4, mapE gM1 (plL b) plKey plVal), (3, .box 24 [.ref 0, .int .i64 b.rule, .int .i64 b.most]), (0, .sl .ro 61 3 b.loads encLoad zLoad), (1, .pf NobodyAt (· = 1)), (2, .pf LanesAt (· = 0))], 8, []⟩) (fun zz : (List (Int × Bool)) => ⟨55, [(6, [], .s (.p 7 0)), (1, [], .s (.p 3 0))], [(7, .box 109 [.v (.map (some gM2))]), (6, mapE gM2 zz stKey stVal), (5, .box 94 [.ref 0, .int .i64 b.rule, .int .i64 b.most, .v (.map (some gM1))]), (4, mapE gM1 (plL b) plKey plVal), (3, .box 24 [.ref 0, .int .i64 b.rule, .int .i64 b.most]), (0, .sl .ro 61 3 b.loads encLoad zLoad), (1, .pf NobodyAt (· = 1)), (2, .pf LanesAt (· = 0))], 8, []⟩) (fun (k1 : Nat) (zz : (List (Int × Bool))) => ∀ x ∈ zz, x.1 < (k1 : Int)) (fun x hx => by cases hx) ⟨0, rfl, Le_sel (ts := [23, 22, 6, 5, 1]) (ids := [7, 6, 5, 4, 3, 0, 1, 2]) (nx := 8) (by kernel_rfl)⟩ ?_ ?_
  · intro k1 v1_1 hn1 hp1 hi1 Q1 hq1 ho1
    replace hp1 : ∀ x ∈ v1_1, x.1 < (k1 : Int) := hp1
    refine WP_seq (WP_region (WPO_all tt_ok (by kernel_rfl) ?_))
    refine WP_seq (WP_cond (decide ((k1 : Int) < (IntKind.i64.wrap ((allD b) + 1)))) (by kernel_rfl) (fun hc3 => ?_) (fun hc3 => ?_))
    rotate_left
    · refine WP_exit ?_
      show Q1 (.exit 0) _
      exact LA_exit hq1 v1_1 (loopR_end hi1 hc3) ⟨k1, hn1, hp1⟩ (Le_sel (ts := [6, 1]) (ids := [7, 6, 5, 4, 3, 0, 1, 2]) (nx := 8) (by kernel_rfl))
    have hc3' := of_decide_eq_true hc3
    have hk1 : k1 < 2 ^ b.loads.length := by rw [hpw] at hc3'; omega
    refine WP_skip ?_
    refine WP_seq (WP_block ?_)
    refine WP_seq (WP_region (WPO_all tt_ok (by kernel_rfl) ?_))
    refine WP_drawH [6] (by kernel_rfl) (by kernel_rfl) ?_
    refine H_run tt_ok [0, 1, 2, 3] (f' := 2) (by kernel_rfl) (by kernel_rfl) (by kernel_rfl) ?_
    refine H_step 4 (by kernel_rfl) (by kernel_rfl) (fun hfz cx' hx1 hx2 => ?_)
    refine CALL 97 [.g [.ref 0, .int .i64 b.rule, .int .i64 b.most, .v (.map (some gM1))], .s (.int .i64 (k1 : Int))] (.s (.bool (togetherD b (k1 : Int)))) [] (by kernel_rfl) (goes_of (by kernel_rfl)) (by kernel_rfl) (by kernel_rfl) (fun _ nV w h => togetherD_calls (nV 0) gM1 b (k1 : Int) w (h.reads (id := 0) (kd := .ro) (e := 61) (by kernel_rfl)) (h.ents (4, mapE gM1 (plL b) plKey plVal) (fnd_mem (by kernel_rfl))).1 (h.ents (2, .pf LanesAt (· = 0)) (fnd_mem (by kernel_rfl))).1 (by first | assumption | omega) (by first | assumption | omega)) ?_
    refine WPO_end (by kernel_rfl) ⟨rfl, (hfz.fnds [7, 5, 4, 3, 0, 1, 2] (by kernel_rfl) ⟨by kernel_rfl, by kernel_rfl, by kernel_rfl, by kernel_rfl, by kernel_rfl, by kernel_rfl, by kernel_rfl, trivial⟩ (by kernel_rfl)), ?_⟩
    refine H_step 5 (by kernel_rfl) (by kernel_rfl) (fun hfz cx' hx1 hx2 => ?_)
    refine MUPg tt_ok v1_1 stKey stVal (((k1 : Int), (togetherD b (k1 : Int))) : Int × Bool) 6 gM2 3 (.s (.int .i64 (k1 : Int))) (.s (.bool (togetherD b (k1 : Int)))) (by kernel_rfl) (by kernel_rfl) (fun _ => ⟨rfl, rfl⟩) (fun w => check_int (by kernel_rfl) _ w false) (fun w => find_int_none (by kernel_rfl) _ stK stKey stVal (fun _ => rfl) w _ (fun x hx h => by have h0 := hp1 x hx; simp only [stK] at h; omega)) ?_
    refine WPO_end (by kernel_rfl) ⟨rfl, (hfz.fnds [7, 5, 4, 3, 0, 1, 2] (by kernel_rfl) ⟨by kernel_rfl, by kernel_rfl, by kernel_rfl, by kernel_rfl, by kernel_rfl, by kernel_rfl, by kernel_rfl, trivial⟩ (by kernel_rfl)), ?_⟩
    refine H_done (by kernel_rfl) ?_
    refine WP_region (WPO_all tt_ok (by kernel_rfl) ?_)
    show Q1 .normal _
    exact LA_go hq1 (ci := IntKind.i64.wrap ((k1 : Int) + 1)) (v1_1 ++ [(((k1 : Int), (togetherD b (k1 : Int))) : Int × Bool)]) hk1 (by show _ = ((k1 + 1 : Nat) : Int); rw [wrapI (by omega) (by omega)]; omega) (loopR_go hi1 hk1 hc3 (rfl)) (fun x hx => (List.mem_append.1 hx).elim (fun h => by have := hp1 x h; omega) (fun h => by rw [List.mem_singleton.1 h]; show (k1 : Int) < ((k1 + 1 : Nat) : Int); omega)) (Le_sel (ts := [23, 22, 6, 5, 1]) (ids := [7, 6, 5, 4, 3, 0, 1, 2]) (nx := 8) (by kernel_rfl))
  intro u1_0 hR1 hP1 s' hl
  obtain ⟨kP1, hkP1, hpP1⟩ := hP1
  replace hpP1 : ∀ x ∈ u1_0, x.1 < (kP1 : Int) := hpP1
  refine WP_le hl ?_
  clear hl s'
  refine WP_seq (WP_region (WPO_all tt_ok (by kernel_rfl) ?_))
  refine WP_seq (WP_region (WPO_all tt_ok (by kernel_rfl) ?_))
  refine WP_seq (WP_seq (WP_region (WPO_all tt_ok (by kernel_rfl) ?_)))
  refine WP_loopA (ρ := (List Int) × Int) (fewestA_c2 b u1_0) (fewestA_b2 b u1_0) b.loads.length () (fun k : Nat => (k : Int)) (fun (ci : Int) (zz : Unit) => ⟨55, [(36, [], .s (.int .i64 ci)), (35, [], .s (.int .i64 (b.loads.length : Int))), (8, [], .s (.p 8 0))], [(9, .clo 98 [] [.s (.p 3 0), .s (.p 7 0), .s (.p 8 0)]), (8, .box 112 [.ref 9]), (7, .box 109 [.v (.map (some gM2))]), (6, mapE gM2 u1_0 stKey stVal), (5, .box 94 [.ref 0, .int .i64 b.rule, .int .i64 b.most, .v (.map (some gM1))]), (4, mapE gM1 (plL b) plKey plVal), (3, .box 24 [.ref 0, .int .i64 b.rule, .int .i64 b.most]), (0, .sl .ro 61 3 b.loads encLoad zLoad), (1, .pf NobodyAt (· = 1)), (2, .pf LanesAt (· = 0))], 10, []⟩) (fun zz : Unit => ⟨55, [], [(9, .clo 98 [] [.s (.p 3 0), .s (.p 7 0), .s (.p 8 0)]), (8, .box 112 [.ref 9]), (7, .box 109 [.v (.map (some gM2))]), (6, mapE gM2 u1_0 stKey stVal), (5, .box 94 [.ref 0, .int .i64 b.rule, .int .i64 b.most, .v (.map (some gM1))]), (4, mapE gM1 (plL b) plKey plVal), (3, .box 24 [.ref 0, .int .i64 b.rule, .int .i64 b.most]), (0, .sl .ro 61 3 b.loads encLoad zLoad), (1, .pf NobodyAt (· = 1)), (2, .pf LanesAt (· = 0))], 10, []⟩) (fun k zz => True) trivial ⟨0, rfl, Le_sel (ts := [36, 35, 8]) (ids := [9, 8, 7, 6, 5, 4, 3, 0, 1, 2]) (nx := 10) (by kernel_rfl)⟩ ?_ ?_
  · intro k2 zz hn2 hp2 hi2 Q2 hq2 ho2
    refine WP_seq (WP_region (WPO_all tt_ok (by kernel_rfl) ?_))
    refine WP_seq (WP_cond (decide ((k2 : Int) < (b.loads.length : Int))) (by kernel_rfl) (fun hc4 => ?_) (fun hc4 => ?_))
    rotate_left
    · refine WP_exit ?_
      show Q2 (.exit 2) _
      exact LA_exit hq2 () (loopR_end hi2 hc4) ⟨k2, hn2, hp2⟩ (Le_sel (ts := []) (ids := [9, 8, 7, 6, 5, 4, 3, 0, 1, 2]) (nx := 10) (by kernel_rfl))
    have hc4' := of_decide_eq_true hc4
    have hk2 : k2 < b.loads.length := by omega
    refine WP_skip ?_
    refine WP_seq (WP_block ?_)
    refine WP_seq (WP_region (WPO_all tt_ok (by kernel_rfl) ?_))
    refine WP_seq (WP_drawH [] (by kernel_rfl) (by kernel_rfl) ?_)
    refine H_run tt_ok [0, 1, 2] (f' := 7) (by kernel_rfl) (by kernel_rfl) (by kernel_rfl) ?_
    refine H_step 3 (by kernel_rfl) (by kernel_rfl) (fun hfz cx' hx1 hx2 => ?_)
    refine MKS tt_ok 33 3 (IntKind.i64.wrap ((k2 : Int) + 1)) (some 43) encI 0 (.int .i64 0) (by kernel_rfl) (by kernel_rfl) rfl (fun _ => rfl) (by kernel_rfl) (by rw [wrapI (by omega) (by omega)]; omega) (by kernel_rfl) ?_
    refine WPO_end (by kernel_rfl) ⟨rfl, (hfz.fnds [9, 8, 7, 6, 5, 4, 3, 0, 1, 2] (by kernel_rfl) ⟨by kernel_rfl, by kernel_rfl, by kernel_rfl, by kernel_rfl, by kernel_rfl, by kernel_rfl, by kernel_rfl, by kernel_rfl, by kernel_rfl, by kernel_rfl, trivial⟩ (by kernel_rfl)), ?_⟩
    refine H_step 4 (by kernel_rfl) (by kernel_rfl) (fun hfz cx' hx1 hx2 => ?_)
    refine CALLSL 98 [.s (.v (.slice none 0 0)), .s (.ref 10), .s (.p 3 0), .s (.p 7 0), .s (.p 8 0)] (fun sv5 => .t [(false, [.v sv5]), (false, [.bool (crossD b u1_0 b.loads.length [] (List.replicate (IntKind.i64.wrap ((k2 : Int) + 1)).toNat 0)).2])]) 1 (crossD b u1_0 b.loads.length [] (List.replicate (IntKind.i64.wrap ((k2 : Int) + 1)).toNat 0)).1 encI 0 (by decide) (by kernel_rfl) (goes_of (by kernel_rfl)) (fun _ => (by kernel_rfl)) (fun _ => (by kernel_rfl)) (fun _ _ _ => rfl) (fun nV w h => by
      obtain ⟨gx, hx1, _, hx2⟩ := h.ents (3, .box 24 [.ref 0, .int .i64 b.rule, .int .i64 b.most]) (fnd_mem (by kernel_rfl))
      obtain ⟨gt, ht1, _, ht2⟩ := h.ents (7, .box 109 [.v (.map (some gM2))]) (fnd_mem (by kernel_rfl))
      obtain ⟨gc, hc1, _, hc2⟩ := h.ents (8, .box 112 [.ref 9]) (fnd_mem (by kernel_rfl))
      exact cross_top u1_0 hb5 (nV 0) (nV 10) (nV 3) (nV 7) (nV 8) (nV 9) gx gt gM2 gc (List.replicate (IntKind.i64.wrap ((k2 : Int) + 1)).toNat 0) w (by rw [List.length_replicate, wrapI (by omega) (by omega)]; omega) (h.reads (id := 0) (kd := .ro) (e := 61) (by kernel_rfl)) (h.reads (id := 10) (kd := .own) (e := 3) (by kernel_rfl)) (h.ents (6, mapE gM2 u1_0 stKey stVal) (fnd_mem (by kernel_rfl))).1 hx1 ht1 hc1 hx2 ht2 (h.ents (9, .clo 98 [] [.s (.p 3 0), .s (.p 7 0), .s (.p 8 0)]) (fnd_mem (by kernel_rfl))) hc2) (fun sv5 => ?_)
    refine WPO_end (by kernel_rfl) ⟨rfl, (hfz.fnds [9, 8, 7, 6, 5, 4, 3, 0, 1, 2] (by kernel_rfl) ⟨by kernel_rfl, by kernel_rfl, by kernel_rfl, by kernel_rfl, by kernel_rfl, by kernel_rfl, by kernel_rfl, by kernel_rfl, by kernel_rfl, by kernel_rfl, trivial⟩ (by kernel_rfl)), ?_⟩
    refine H_run tt_ok [5, 6, 7, 8, 9] (f' := 0) (by kernel_rfl) (by kernel_rfl) (by kernel_rfl) ?_
    refine H_done (by kernel_rfl) ?_
    refine WP_seq (WP_region (WPO_all tt_ok (by kernel_rfl) ?_))
    refine WP_cond ((crossD b u1_0 b.loads.length [] (List.replicate (IntKind.i64.wrap ((k2 : Int) + 1)).toNat 0)).2) (by kernel_rfl) (fun hc6 => ?_) (fun hc6 => ?_)
    · refine WP_seq (WP_region (WPO_run tt_ok 2 (by kernel_rfl) ?_))
      refine SLEN tt_ok (.s (.v sv5)) [] (crossD b u1_0 b.loads.length [] (List.replicate (IntKind.i64.wrap ((k2 : Int) + 1)).toNat 0)).1.length (by kernel_rfl) (fun _ n w h => by obtain ⟨A, c, hv, _⟩ := (h.ents (11, slE sv5 1 (crossD b u1_0 b.loads.length [] (List.replicate (IntKind.i64.wrap ((k2 : Int) + 1)).toNat 0)).1 encI 0) (fnd_mem (by kernel_rfl))).1; exact ⟨A, c, hv⟩) (by kernel_rfl) ?_
      refine WPO_run tt_ok 1 (by kernel_rfl) ?_
      refine SLEN tt_ok (.s (.v sv5)) [] (crossD b u1_0 b.loads.length [] (List.replicate (IntKind.i64.wrap ((k2 : Int) + 1)).toNat 0)).1.length (by kernel_rfl) (fun _ n w h => by obtain ⟨A, c, hv, _⟩ := (h.ents (11, slE sv5 1 (crossD b u1_0 b.loads.length [] (List.replicate (IntKind.i64.wrap ((k2 : Int) + 1)).toNat 0)).1 encI 0) (fnd_mem (by kernel_rfl))).1; exact ⟨A, c, hv⟩) (by kernel_rfl) ?_
      refine SLVF tt_ok 11 sv5 3 1 (crossD b u1_0 b.loads.length [] (List.replicate (IntKind.i64.wrap ((k2 : Int) + 1)).toNat 0)).1 encI 0 (some 53) (by kernel_rfl) (by kernel_rfl) (fun _ => (by kernel_rfl)) (fun sv6 => ?_)
      refine WPO_all tt_ok (by kernel_rfl) ?_
      refine WP_ret ?_
      show Q2 .ret _
      refine LA_ret hq2 ?_
      have he7 := loopR_ret (r := ((crossD b u1_0 b.loads.length [] (List.replicate (IntKind.i64.wrap ((k2 : Int) + 1)).toNat 0)).1, 0)) hi2 hk2 hc4 (by unfold fewestA_b2; simp only [hc6, cond_true, cond_false])
      exact ⟨.t [(false, [.v sv6]), (false, [.int .i64 0])], by kernel_rfl, fun nV w' h => ⟨sv6, by rw [show fewestA b = ((crossD b u1_0 b.loads.length [] (List.replicate (IntKind.i64.wrap ((k2 : Int) + 1)).toNat 0)).1, 0) from by unfold fewestA; simp only [hc2, hR1, he7, cond_true, cond_false]]; rfl, h.bel, by rw [show fewestA b = ((crossD b u1_0 b.loads.length [] (List.replicate (IntKind.i64.wrap ((k2 : Int) + 1)).toNat 0)).1, 0) from by unfold fewestA; simp only [hc2, hR1, he7, cond_true, cond_false]]; exact (slE_lt (id := 12) (v := sv6) (sz := 1) (li := (crossD b u1_0 b.loads.length [] (List.replicate (IntKind.i64.wrap ((k2 : Int) + 1)).toNat 0)).1) (enc := encI) (z := 0) h (by kernel_rfl)).1, (slE_lt (id := 12) (v := sv6) (sz := 1) (li := (crossD b u1_0 b.loads.length [] (List.replicate (IntKind.i64.wrap ((k2 : Int) + 1)).toNat 0)).1) (enc := encI) (z := 0) h (by kernel_rfl)).2⟩⟩
    refine WP_skip ?_
    refine WP_region (WPO_all tt_ok (by kernel_rfl) ?_)
    show Q2 .normal _
    exact LA_go hq2 (ci := IntKind.i64.wrap ((k2 : Int) + 1)) () hk2 (by show _ = ((k2 + 1 : Nat) : Int); rw [wrapI (by omega) (by omega)]; omega) (loopR_go hi2 hk2 hc4 (by unfold fewestA_b2; simp only [hc6, cond_true, cond_false])) trivial (Le_sel (ts := [36, 35, 8]) (ids := [9, 8, 7, 6, 5, 4, 3, 0, 1, 2]) (nx := 10) (by kernel_rfl))
  intro zz hR2 hP2 s' hl
  refine WP_le hl ?_
  clear hl s'
  refine WP_seq (WP_region (WPO_all tt_ok (by kernel_rfl) ?_))
  refine WP_ret ?_
  exact ⟨.t [(false, [.v (.slice none 0 0)]), (false, [.int .i64 4])], by kernel_rfl, fun nV w' h => ⟨.slice none 0 0, by rw [show fewestA b = ([], 4) from by unfold fewestA; simp only [hc2, hR1, hR2, cond_true, cond_false]]; rfl, h.bel, by rw [show fewestA b = ([], 4) from by unfold fewestA; simp only [hc2, hR1, hR2, cond_true, cond_false]]; exact reads_nil, fun g hg => by cases hg⟩⟩
end Go.Proofs.YthfnedbpmdkdjaaDoor.D
namespace Go.Proofs.YthfnedbpmdkdjaaDoor.D
open Go Go.RowKit Go.Proofs.YthfnedbpmdkdjaaDoor.Eng Go.Proofs.YthfnedbpmdkdjaaDoor.Cm
set_option linter.unusedVariables false
set_option linter.unusedSimpArgs false
set_option linter.unusedSectionVars false
def weighA_c2 (b : DBook) (k1 : Nat) (v1_1 : Int) (v1_2 : Int) (k2 : Nat) : Int → Bool := fun v2_1 => decide ((k2 : Int) < (IntKind.i64.wrap ((IntKind.i64.wrap ((b.loads.getD k1 zLoad).w.hi - (b.loads.getD k1 zLoad).w.lo)) + 1)))
def weighA_b2 (b : DBook) (k1 : Nat) (v1_1 : Int) (v1_2 : Int) (k2 : Nat) : Int → Bd Int (Int × Int) := fun v2_1 => .go (mn v2_1 ((mostD (⟨(cloneL b.loads).set k1 (⟨(⟨IntKind.i64.wrap ((b.loads.getD k1 zLoad).w.lo + (k2 : Int)), IntKind.i64.wrap ((b.loads.getD k1 zLoad).w.lo + (k2 : Int))⟩ : Span), ((cloneL b.loads).getD k1 zLoad).lanes⟩ : Load), b.rule, b.most⟩ : DBook)).length : Int))
def weighA_c1 (b : DBook) (k1 : Nat) : (Int × Int) → Bool := fun (v1_1, v1_2) => decide ((k1 : Int) < (b.loads.length : Int))
def weighA_b1 (b : DBook) (k1 : Nat) : (Int × Int) → Bd (Int × Int) (Int × Int) := fun (v1_1, v1_2) => (bif (IntKind.i64.wrap ((b.loads.getD k1 zLoad).w.hi - (b.loads.getD k1 zLoad).w.lo)) == 0 then .go (v1_1, v1_2) else (match loopR (weighA_c2 b k1 v1_1 v1_2) (weighA_b2 b k1 v1_1 v1_2) ((IntKind.i64.wrap ((IntKind.i64.wrap ((b.loads.getD k1 zLoad).w.hi - (b.loads.getD k1 zLoad).w.lo)) + 1)) : Int).toNat 0 (b.loads.length : Int) with | .brk u2_0 => .go (bif (decide ((greatestD u2_0 ([v1_1])) > v1_1)) then u2_0 else v1_1, bif (decide ((greatestD u2_0 ([v1_1])) > v1_1)) then (k1 : Int) else v1_2) | .ret r => .ret r))
def weighA (b : DBook) : Int × Int :=
  (bif (checkD b) != 0 then (0, (checkD b)) else (match loopR (weighA_c1 b) (weighA_b1 b) b.loads.length 0 (-1, -1) with | .brk (u1_0, u1_1) => (bif decide (u1_1 < 0) then (0, 4) else (u1_1, 0)) | .ret r => r))
set_option maxHeartbeats 1000000 in
theorem weighA_calls (g0 : Value) (b : DBook) (w : World) (r0 : Reads w g0 3 b.loads encLoad zLoad) (hnb : NobodyAt w) (hla : LanesAt w) : Calls Tryd.prog 48 #[.agg #[g0, iv b.rule, iv b.most]] w fun e w' => e = .returned (.tuple #[iv (weighA b).1, iv (weighA b).2]) ∧ Below w.heap.size w w' := by
  refine calls_of_WP (cx := cx0 w (vn [g0]) 1) (n := vn [g0]) (vs := [.g [.ref 0, .int .i64 b.rule, .int .i64 b.most]]) (hp := [(0, .sl .ro 61 3 b.loads encLoad zLoad), (1, .pf NobodyAt (· = 1)), (2, .pf LanesAt (· = 0))]) (nx := 3) tt_ok Tryd.func48 rfl rfl rfl (by kernel_rfl) (HSat_args (vn_one (by simp [r0.one])) (by decide) ⟨⟨⟨fun _ => rfl, by decide, r0⟩, (Nat.le_of_ble_eq_true rfl)⟩, ⟨⟨hnb, fun w1 w2 h1 hw => (hw 1 rfl).trans h1, fun g hg => by cases hg; exact (Array.getElem?_eq_some_iff.1 hnb).1⟩, (Nat.le_of_ble_eq_true rfl)⟩, ⟨⟨hla, fun w1 w2 h1 hw => (hw 0 rfl).trans h1, fun g hg => by cases hg; exact (Array.getElem?_eq_some_iff.1 hla).1⟩, (Nat.le_of_ble_eq_true rfl)⟩, trivial⟩) (vsOk (by kernel_rfl)) ?_
  have hl0 := Reads.len r0
  refine WP_seq (WP_region (WPO_all tt_ok (by kernel_rfl) ?_))
  refine WP_seq (WP_seq (WP_region (WPO_run tt_ok 1 (by kernel_rfl) ?_)))
  refine CALL 66 [.g [.ref 0, .int .i64 b.rule, .int .i64 b.most]] (.s (.int .i64 (checkD b))) [] (by kernel_rfl) (goes_of (by kernel_rfl)) (by kernel_rfl) (by kernel_rfl) (fun _ nV w h => checkD_calls (nV 0) b w (h.reads (id := 0) (kd := .ro) (e := 61) (by kernel_rfl)) ) ?_
  refine WPO_all tt_ok (by kernel_rfl) ?_
  refine WP_seq (WP_region (WPO_all tt_ok (by kernel_rfl) ?_))
  refine WP_cond ((checkD b) != 0) (by kernel_rfl) (fun hc2 => ?_) (fun hc2 => ?_)
  · have hc2' := hc2; try simp only [Bool.and_eq_true, Bool.or_eq_true, Bool.and_eq_false_iff, Bool.or_eq_false_iff, Bool.not_eq_true', Bool.not_eq_false', decide_eq_true_eq, decide_eq_false_iff_not, beq_iff_eq, beq_eq_false_iff_ne, bne_iff_ne, bne_eq_false_iff_eq, ne_eq] at hc2'
    refine WP_seq (WP_region (WPO_all tt_ok (by kernel_rfl) ?_))
    refine WP_ret ?_
    exact ⟨.t [(false, [.int .i64 0]), (false, [.int .i64 (checkD b)])], by kernel_rfl, fun nV w' h => ⟨by rw [show weighA b = (0, (checkD b)) from by unfold weighA; simp only [hc2, cond_true, cond_false]]; rfl, h.bel⟩⟩
  have hc2' := hc2; try simp only [Bool.and_eq_true, Bool.or_eq_true, Bool.and_eq_false_iff, Bool.or_eq_false_iff, Bool.not_eq_true', Bool.not_eq_false', decide_eq_true_eq, decide_eq_false_iff_not, beq_iff_eq, beq_eq_false_iff_ne, bne_iff_ne, bne_eq_false_iff_eq, ne_eq] at hc2'
  refine WP_skip ?_
  have hv : ValidD b := checkD_valid.1 (bne_eq_false_iff_eq.1 (by assumption))
  have hb5 := hv.n.2
  have hcl : (cloneL b.loads).length = b.loads.length := rfl
  refine WP_seq (WP_region (WPO_all tt_ok (by kernel_rfl) ?_))
  refine WP_seq (WP_seq (WP_region (WPO_all tt_ok (by kernel_rfl) ?_)))
  refine WP_loopA (ρ := Int × Int) (weighA_c1 b) (weighA_b1 b) b.loads.length (-1, -1) (fun k : Nat => (k : Int)) (fun (ci : Int) (zz : Int × Int) => ⟨83, [(21, [], .s (.int .i64 ci)), (20, [], .s (.int .i64 (b.loads.length : Int))), (19, [], .s (.ref 0)), (6, [], .s (.int .i64 zz.1)), (5, [], .s (.int .i64 zz.2)), (1, [], .s (.p 3 0))], [(3, .box 24 [.ref 0, .int .i64 b.rule, .int .i64 b.most]), (0, .sl .ro 61 3 b.loads encLoad zLoad), (1, .pf NobodyAt (· = 1)), (2, .pf LanesAt (· = 0))], 4, []⟩) (fun zz : Int × Int => ⟨83, [(5, [], .s (.int .i64 zz.2))], [(3, .box 24 [.ref 0, .int .i64 b.rule, .int .i64 b.most]), (0, .sl .ro 61 3 b.loads encLoad zLoad), (1, .pf NobodyAt (· = 1)), (2, .pf LanesAt (· = 0))], 4, []⟩) (fun k zz => True) trivial ⟨0, rfl, Le_sel (ts := [21, 20, 19, 6, 5, 1]) (ids := [3, 0, 1, 2]) (nx := 4) (by kernel_rfl)⟩ ?_ ?_
  · intro k1 zz hn1 hp1 hi1 Q1 hq1 ho1
    obtain ⟨v1_1, v1_2⟩ := zz
    refine WP_seq (WP_region (WPO_all tt_ok (by kernel_rfl) ?_))
    refine WP_seq (WP_cond (decide ((k1 : Int) < (b.loads.length : Int))) (by kernel_rfl) (fun hc3 => ?_) (fun hc3 => ?_))
    rotate_left
    · refine WP_exit ?_
      show Q1 (.exit 0) _
      exact LA_exit hq1 (v1_1, v1_2) (loopR_end hi1 hc3) ⟨k1, hn1, hp1⟩ (Le_sel (ts := [5]) (ids := [3, 0, 1, 2]) (nx := 4) (by kernel_rfl))
    have hc3' := of_decide_eq_true hc3
    have hk1 : k1 < b.loads.length := by omega
    have hld := (hv.load hk1).1
    have hw1 : IntKind.i64.wrap ((b.loads.getD k1 zLoad).w.hi - (b.loads.getD k1 zLoad).w.lo) = (b.loads.getD k1 zLoad).w.hi - (b.loads.getD k1 zLoad).w.lo := wrapI (by omega) (by omega)
    have hw2 : IntKind.i64.wrap (IntKind.i64.wrap ((b.loads.getD k1 zLoad).w.hi - (b.loads.getD k1 zLoad).w.lo) + 1) = (b.loads.getD k1 zLoad).w.hi - (b.loads.getD k1 zLoad).w.lo + 1 := by rw [hw1, wrapI (by omega) (by omega)]
    refine WP_skip ?_
    refine WP_seq (WP_block ?_)
    refine WP_seq (WP_region (WPO_run tt_ok 1 (by kernel_rfl) ?_))
    refine IX tt_ok (k1 : Int) b.loads.length [] (by kernel_rfl) (fun hG => ⟨by omega, by omega⟩) ?_
    refine WPO_all tt_ok (by kernel_rfl) ?_
    refine WP_seq (WP_region (WPO_all tt_ok (by kernel_rfl) ?_))
    refine WP_seq (WP_seq (WP_region (WPO_all tt_ok (by kernel_rfl) ?_)))
    refine WP_cond ((IntKind.i64.wrap ((b.loads.getD k1 zLoad).w.hi - (b.loads.getD k1 zLoad).w.lo)) == 0) (by kernel_rfl) (fun hc5 => ?_) (fun hc5 => ?_)
    · have hc5' := hc5; try simp only [Bool.and_eq_true, Bool.or_eq_true, Bool.and_eq_false_iff, Bool.or_eq_false_iff, Bool.not_eq_true', Bool.not_eq_false', decide_eq_true_eq, decide_eq_false_iff_not, beq_iff_eq, beq_eq_false_iff_ne, bne_iff_ne, bne_eq_false_iff_eq, ne_eq] at hc5'
      refine WP_exit ?_
      refine WP_region (WPO_all tt_ok (by kernel_rfl) ?_)
      show Q1 .normal _
      exact LA_go hq1 (ci := IntKind.i64.wrap ((k1 : Int) + 1)) (v1_1, v1_2) hk1 (by show _ = ((k1 + 1 : Nat) : Int); rw [wrapI (by omega) (by omega)]; omega) (loopR_go hi1 hk1 hc3 (by unfold weighA_b1; simp only [hc5, cond_true, cond_false])) trivial (Le_sel (ts := [21, 20, 19, 6, 5, 1]) (ids := [3, 0, 1, 2]) (nx := 4) (by kernel_rfl))
    have hc5' := hc5; try simp only [Bool.and_eq_true, Bool.or_eq_true, Bool.and_eq_false_iff, Bool.or_eq_false_iff, Bool.not_eq_true', Bool.not_eq_false', decide_eq_true_eq, decide_eq_false_iff_not, beq_iff_eq, beq_eq_false_iff_ne, bne_iff_ne, bne_eq_false_iff_eq, ne_eq] at hc5'
    refine WP_skip ?_
    refine WP_seq (WP_region (WPO_all tt_ok (by kernel_rfl) ?_))
    refine WP_seq (WP_seq (WP_region (WPO_all tt_ok (by kernel_rfl) ?_)))
    refine WP_loopA (ρ := Int × Int) (weighA_c2 b k1 v1_1 v1_2) (weighA_b2 b k1 v1_1 v1_2) ((IntKind.i64.wrap ((IntKind.i64.wrap ((b.loads.getD k1 zLoad).w.hi - (b.loads.getD k1 zLoad).w.lo)) + 1)) : Int).toNat (b.loads.length : Int) (fun k : Nat => (k : Int)) (fun (ci : Int) (zz : Int) => ⟨83, [(40, [], .s (.int .i64 ci)), (39, [], .s (.int .i64 (IntKind.i64.wrap ((IntKind.i64.wrap ((b.loads.getD k1 zLoad).w.hi - (b.loads.getD k1 zLoad).w.lo)) + 1)))), (10, [], .s (.int .i64 zz)), (7, [], .s (.int .i64 (k1 : Int))), (8, [], .s (.p 4 0)), (21, [], .s (.int .i64 (k1 : Int))), (20, [], .s (.int .i64 (b.loads.length : Int))), (19, [], .s (.ref 0)), (6, [], .s (.int .i64 v1_1)), (5, [], .s (.int .i64 v1_2)), (1, [], .s (.p 3 0))], [(4, .box 61 [.int .i64 (b.loads.getD k1 zLoad).w.lo, .int .i64 (b.loads.getD k1 zLoad).w.hi, .int .i64 (b.loads.getD k1 zLoad).lanes]), (3, .box 24 [.ref 0, .int .i64 b.rule, .int .i64 b.most]), (0, .sl .ro 61 3 b.loads encLoad zLoad), (1, .pf NobodyAt (· = 1)), (2, .pf LanesAt (· = 0))], 5, []⟩) (fun zz : Int => ⟨83, [(10, [], .s (.int .i64 zz)), (7, [], .s (.int .i64 (k1 : Int))), (21, [], .s (.int .i64 (k1 : Int))), (20, [], .s (.int .i64 (b.loads.length : Int))), (19, [], .s (.ref 0)), (6, [], .s (.int .i64 v1_1)), (5, [], .s (.int .i64 v1_2)), (1, [], .s (.p 3 0))], [(4, .box 61 [.int .i64 (b.loads.getD k1 zLoad).w.lo, .int .i64 (b.loads.getD k1 zLoad).w.hi, .int .i64 (b.loads.getD k1 zLoad).lanes]), (3, .box 24 [.ref 0, .int .i64 b.rule, .int .i64 b.most]), (0, .sl .ro 61 3 b.loads encLoad zLoad), (1, .pf NobodyAt (· = 1)), (2, .pf LanesAt (· = 0))], 5, []⟩) (fun k zz => True) trivial ⟨0, rfl, Le_sel (ts := [40, 39, 10, 7, 8, 21, 20, 19, 6, 5, 1]) (ids := [4, 3, 0, 1, 2]) (nx := 5) (by kernel_rfl)⟩ ?_ ?_
    · intro k2 v2_1 hn2 hp2 hi2 Q2 hq2 ho2
      refine WP_seq (WP_region (WPO_all tt_ok (by kernel_rfl) ?_))
      refine WP_seq (WP_cond (decide ((k2 : Int) < (IntKind.i64.wrap ((IntKind.i64.wrap ((b.loads.getD k1 zLoad).w.hi - (b.loads.getD k1 zLoad).w.lo)) + 1)))) (by kernel_rfl) (fun hc6 => ?_) (fun hc6 => ?_))
      rotate_left
      · refine WP_exit ?_
        show Q2 (.exit 2) _
        exact LA_exit hq2 v2_1 (loopR_end hi2 hc6) ⟨k2, hn2, hp2⟩ (Le_sel (ts := [10, 7, 21, 20, 19, 6, 5, 1]) (ids := [4, 3, 0, 1, 2]) (nx := 5) (by kernel_rfl))
      have hc6' := of_decide_eq_true hc6
      have hk2 : k2 < ((IntKind.i64.wrap ((IntKind.i64.wrap ((b.loads.getD k1 zLoad).w.hi - (b.loads.getD k1 zLoad).w.lo)) + 1)) : Int).toNat := by omega
      refine WP_skip ?_
      refine WP_seq (WP_block ?_)
      refine WP_seq (WP_region (WPO_all tt_ok (by kernel_rfl) ?_))
      refine WP_le (s' := ⟨83, [(11, [], .s (.int .i64 (k2 : Int))), (40, [], .s (.int .i64 (k2 : Int))), (39, [], .s (.int .i64 (IntKind.i64.wrap ((IntKind.i64.wrap ((b.loads.getD k1 zLoad).w.hi - (b.loads.getD k1 zLoad).w.lo)) + 1)))), (10, [], .s (.int .i64 v2_1)), (7, [], .s (.int .i64 (k1 : Int))), (8, [], .s (.p 4 0)), (21, [], .s (.int .i64 (k1 : Int))), (20, [], .s (.int .i64 (b.loads.length : Int))), (19, [], .s (.ref 0)), (6, [], .s (.int .i64 v1_1)), (5, [], .s (.int .i64 v1_2)), (1, [], .s (.p 3 0))], [(4, .box 61 [.int .i64 (b.loads.getD k1 zLoad).w.lo, .int .i64 (b.loads.getD k1 zLoad).w.hi, .int .i64 (b.loads.getD k1 zLoad).lanes]), (3, .box 24 [.ref 0, .int .i64 b.rule, .int .i64 b.most]), (0, .sl .ro 61 3 b.loads encLoad zLoad), (1, .pf NobodyAt (· = 1)), (2, .pf LanesAt (· = 0))], 5, []⟩) (Le_sel (ts := [11, 40, 39, 10, 7, 8, 21, 20, 19, 6, 5, 1]) (ids := [4, 3, 0, 1, 2]) (nx := 5) (by kernel_rfl)) ?_
      refine WP_seq (WP_region (WPO_all tt_ok (by kernel_rfl) ?_))
      refine WP_seq (WP_region (WPO_run tt_ok 2 (by kernel_rfl) ?_))
      refine CALLO 103 [.s (.ref 0)] (.s (.ref 6)) 61 3 (cloneL b.loads) encLoad zLoad 6 (by kernel_rfl) (by kernel_rfl) (goes_of (by kernel_rfl)) (by kernel_rfl) (by kernel_rfl) (fun _ => rfl) ((fun nV w h => cloneL_calls (nV 0) b.loads w (h.reads (id := 0) (kd := .ro) (e := 61) (by kernel_rfl)) (by first | assumption | omega | (simp only [List.length_set, cloneL]; omega)))) ?_
      refine WPO_all tt_ok (by kernel_rfl) ?_
      refine WP_le (s' := ⟨83, [(12, [], .s (.p 5 0)), (11, [], .s (.int .i64 (k2 : Int))), (40, [], .s (.int .i64 (k2 : Int))), (39, [], .s (.int .i64 (IntKind.i64.wrap ((IntKind.i64.wrap ((b.loads.getD k1 zLoad).w.hi - (b.loads.getD k1 zLoad).w.lo)) + 1)))), (10, [], .s (.int .i64 v2_1)), (7, [], .s (.int .i64 (k1 : Int))), (8, [], .s (.p 4 0)), (21, [], .s (.int .i64 (k1 : Int))), (20, [], .s (.int .i64 (b.loads.length : Int))), (19, [], .s (.ref 0)), (6, [], .s (.int .i64 v1_1)), (5, [], .s (.int .i64 v1_2)), (1, [], .s (.p 3 0))], [(6, .sl .own 61 3 (cloneL b.loads) encLoad zLoad), (5, .box 24 [.ref 6, .int .i64 b.rule, .int .i64 b.most]), (4, .box 61 [.int .i64 (b.loads.getD k1 zLoad).w.lo, .int .i64 (b.loads.getD k1 zLoad).w.hi, .int .i64 (b.loads.getD k1 zLoad).lanes]), (3, .box 24 [.ref 0, .int .i64 b.rule, .int .i64 b.most]), (0, .sl .ro 61 3 b.loads encLoad zLoad), (1, .pf NobodyAt (· = 1)), (2, .pf LanesAt (· = 0))], 7, []⟩) (Le_sel (ts := [12, 11, 40, 39, 10, 7, 8, 21, 20, 19, 6, 5, 1]) (ids := [6, 5, 4, 3, 0, 1, 2]) (nx := 7) (by kernel_rfl)) ?_
      refine WP_seq (WP_region (WPO_run tt_ok 14 (by kernel_rfl) ?_))
      refine IX tt_ok (k1 : Int) (cloneL b.loads).length [] (by kernel_rfl) (fun hG => ⟨by omega, by omega⟩) ?_
      refine WPO_run tt_ok 1 (by kernel_rfl) ?_
      refine EST tt_ok 6 (k1 : Int) 3 0 61 43 (cloneL b.loads) encLoad zLoad (⟨(⟨IntKind.i64.wrap ((b.loads.getD k1 zLoad).w.lo + (k2 : Int)), IntKind.i64.wrap ((b.loads.getD k1 zLoad).w.lo + (k2 : Int))⟩ : Span), ((cloneL b.loads).getD k1 zLoad).lanes⟩ : Load) (.g [.int .i64 (IntKind.i64.wrap ((b.loads.getD k1 zLoad).w.lo + (k2 : Int))), .int .i64 (IntKind.i64.wrap ((b.loads.getD k1 zLoad).w.lo + (k2 : Int)))]) (by kernel_rfl) (by kernel_rfl) (by kernel_rfl) (by kernel_rfl) ⟨by omega, by omega⟩ (fun n => rfl) ?_
      refine WPO_nil ?_
      refine WP_le (s' := ⟨83, [(12, [], .s (.p 5 0)), (40, [], .s (.int .i64 (k2 : Int))), (39, [], .s (.int .i64 (IntKind.i64.wrap ((IntKind.i64.wrap ((b.loads.getD k1 zLoad).w.hi - (b.loads.getD k1 zLoad).w.lo)) + 1)))), (10, [], .s (.int .i64 v2_1)), (7, [], .s (.int .i64 (k1 : Int))), (8, [], .s (.p 4 0)), (21, [], .s (.int .i64 (k1 : Int))), (20, [], .s (.int .i64 (b.loads.length : Int))), (19, [], .s (.ref 0)), (6, [], .s (.int .i64 v1_1)), (5, [], .s (.int .i64 v1_2)), (1, [], .s (.p 3 0))], [(6, .sl .own 61 3 ((cloneL b.loads).set k1 (⟨(⟨IntKind.i64.wrap ((b.loads.getD k1 zLoad).w.lo + (k2 : Int)), IntKind.i64.wrap ((b.loads.getD k1 zLoad).w.lo + (k2 : Int))⟩ : Span), ((cloneL b.loads).getD k1 zLoad).lanes⟩ : Load)) encLoad zLoad), (5, .box 24 [.ref 6, .int .i64 b.rule, .int .i64 b.most]), (4, .box 61 [.int .i64 (b.loads.getD k1 zLoad).w.lo, .int .i64 (b.loads.getD k1 zLoad).w.hi, .int .i64 (b.loads.getD k1 zLoad).lanes]), (3, .box 24 [.ref 0, .int .i64 b.rule, .int .i64 b.most]), (0, .sl .ro 61 3 b.loads encLoad zLoad), (1, .pf NobodyAt (· = 1)), (2, .pf LanesAt (· = 0))], 7, []⟩) (Le_sel (ts := [12, 40, 39, 10, 7, 8, 21, 20, 19, 6, 5, 1]) (ids := [6, 5, 4, 3, 0, 1, 2]) (nx := 7) (by kernel_rfl)) ?_
      refine WP_region (WPO_run tt_ok 2 (by kernel_rfl) ?_)
      refine CALLMAP 90 [.g [.ref 6, .int .i64 b.rule, .int .i64 b.most]] (plL (⟨(cloneL b.loads).set k1 (⟨(⟨IntKind.i64.wrap ((b.loads.getD k1 zLoad).w.lo + (k2 : Int)), IntKind.i64.wrap ((b.loads.getD k1 zLoad).w.lo + (k2 : Int))⟩ : Span), ((cloneL b.loads).getD k1 zLoad).lanes⟩ : Load), b.rule, b.most⟩ : DBook)) plKey plVal (fun gM7 => .g [.ref 6, .int .i64 b.rule, .int .i64 b.most, .v (.map (some gM7))]) (by kernel_rfl) (goes_of (by kernel_rfl)) (fun _ => (by kernel_rfl)) (fun _ => (by kernel_rfl)) (fun _ n n' h => by simp only [AV.c, cellsV, part1, AC.c, List.map_cons, List.map_nil, h 6 (by show 6 < 7; decide)]) (fun nV w h => opened_plL (nV 6) (⟨(cloneL b.loads).set k1 (⟨(⟨IntKind.i64.wrap ((b.loads.getD k1 zLoad).w.lo + (k2 : Int)), IntKind.i64.wrap ((b.loads.getD k1 zLoad).w.lo + (k2 : Int))⟩ : Span), ((cloneL b.loads).getD k1 zLoad).lanes⟩ : Load), b.rule, b.most⟩ : DBook) w (h.reads (id := 6) (kd := .own) (e := 61) (by kernel_rfl)) (h.ents (1, .pf NobodyAt (· = 1)) (fnd_mem (by kernel_rfl))).1 (by first | assumption | omega | (simp only [List.length_set, cloneL]; omega))) (fun gM7 => ?_)
      refine CALLSL 95 [.g [.ref 6, .int .i64 b.rule, .int .i64 b.most, .v (.map (some gM7))]] (fun sv8 => .s (.v sv8)) 1 (mostD (⟨(cloneL b.loads).set k1 (⟨(⟨IntKind.i64.wrap ((b.loads.getD k1 zLoad).w.lo + (k2 : Int)), IntKind.i64.wrap ((b.loads.getD k1 zLoad).w.lo + (k2 : Int))⟩ : Span), ((cloneL b.loads).getD k1 zLoad).lanes⟩ : Load), b.rule, b.most⟩ : DBook)) encI 0 (by decide) (by kernel_rfl) (goes_of (by kernel_rfl)) (fun _ => (by kernel_rfl)) (fun _ => (by kernel_rfl)) (fun _ _ _ => rfl) (fun nV w h => mostD_calls (nV 6) gM7 (⟨(cloneL b.loads).set k1 (⟨(⟨IntKind.i64.wrap ((b.loads.getD k1 zLoad).w.lo + (k2 : Int)), IntKind.i64.wrap ((b.loads.getD k1 zLoad).w.lo + (k2 : Int))⟩ : Span), ((cloneL b.loads).getD k1 zLoad).lanes⟩ : Load), b.rule, b.most⟩ : DBook) w (h.reads (id := 6) (kd := .own) (e := 61) (by kernel_rfl)) (h.ents (7, mapE gM7 (plL (⟨(cloneL b.loads).set k1 (⟨(⟨IntKind.i64.wrap ((b.loads.getD k1 zLoad).w.lo + (k2 : Int)), IntKind.i64.wrap ((b.loads.getD k1 zLoad).w.lo + (k2 : Int))⟩ : Span), ((cloneL b.loads).getD k1 zLoad).lanes⟩ : Load), b.rule, b.most⟩ : DBook)) plKey plVal) (fnd_mem (by kernel_rfl))).1 (h.ents (2, .pf LanesAt (· = 0)) (fnd_mem (by kernel_rfl))).1 (by first | assumption | omega | (simp only [List.length_set, cloneL]; omega))) (fun sv8 => ?_)
      refine SLEN tt_ok (.s (.v sv8)) [] (mostD (⟨(cloneL b.loads).set k1 (⟨(⟨IntKind.i64.wrap ((b.loads.getD k1 zLoad).w.lo + (k2 : Int)), IntKind.i64.wrap ((b.loads.getD k1 zLoad).w.lo + (k2 : Int))⟩ : Span), ((cloneL b.loads).getD k1 zLoad).lanes⟩ : Load), b.rule, b.most⟩ : DBook)).length (by kernel_rfl) (fun _ n w h => by obtain ⟨A, c, hv, _⟩ := (h.ents (8, slE sv8 1 (mostD (⟨(cloneL b.loads).set k1 (⟨(⟨IntKind.i64.wrap ((b.loads.getD k1 zLoad).w.lo + (k2 : Int)), IntKind.i64.wrap ((b.loads.getD k1 zLoad).w.lo + (k2 : Int))⟩ : Span), ((cloneL b.loads).getD k1 zLoad).lanes⟩ : Load), b.rule, b.most⟩ : DBook)) encI 0) (fnd_mem (by kernel_rfl))).1; exact ⟨A, c, hv⟩) (by kernel_rfl) ?_
      refine WPO_all tt_ok (by kernel_rfl) ?_
      refine WP_region (WPO_all tt_ok (by kernel_rfl) ?_)
      show Q2 .normal _
      exact LA_go hq2 (ci := IntKind.i64.wrap ((k2 : Int) + 1)) (mn v2_1 ((mostD (⟨(cloneL b.loads).set k1 (⟨(⟨IntKind.i64.wrap ((b.loads.getD k1 zLoad).w.lo + (k2 : Int)), IntKind.i64.wrap ((b.loads.getD k1 zLoad).w.lo + (k2 : Int))⟩ : Span), ((cloneL b.loads).getD k1 zLoad).lanes⟩ : Load), b.rule, b.most⟩ : DBook)).length : Int)) hk2 (by show _ = ((k2 + 1 : Nat) : Int); rw [wrapI (by omega) (by omega)]; omega) (loopR_go hi2 hk2 hc6 (rfl)) trivial (Le_sel (ts := [40, 39, 10, 7, 8, 21, 20, 19, 6, 5, 1]) (ids := [4, 3, 0, 1, 2]) (nx := 5) (by kernel_rfl))
    intro u2_0 hR2 hP2 s' hl
    refine WP_le hl ?_
    clear hl s'
    refine WP_le (s' := ⟨83, [(10, [], .s (.int .i64 u2_0)), (7, [], .s (.int .i64 (k1 : Int))), (21, [], .s (.int .i64 (k1 : Int))), (20, [], .s (.int .i64 (b.loads.length : Int))), (19, [], .s (.ref 0)), (6, [], .s (.int .i64 v1_1)), (5, [], .s (.int .i64 v1_2)), (1, [], .s (.p 3 0))], [(4, .box 61 [.int .i64 (b.loads.getD k1 zLoad).w.lo, .int .i64 (b.loads.getD k1 zLoad).w.hi, .int .i64 (b.loads.getD k1 zLoad).lanes]), (3, .box 24 [.ref 0, .int .i64 b.rule, .int .i64 b.most]), (0, .sl .ro 61 3 b.loads encLoad zLoad), (1, .pf NobodyAt (· = 1)), (2, .pf LanesAt (· = 0))], 5, []⟩) (Le_sel (ts := [10, 7, 21, 20, 19, 6, 5, 1]) (ids := [4, 3, 0, 1, 2]) (nx := 5) (by kernel_rfl)) ?_
    refine WP_seq (WP_region (WPO_run tt_ok 2 (by kernel_rfl) ?_))
    refine LIT tt_ok (by kernel_rfl) ?_
    refine LITSL 5 3 1 1 [.int .i64 v1_1] [v1_1] encI 0 (by kernel_rfl) rfl (fun _ => rfl) (fun n => rfl) ?_
    refine CALL 104 [.s (.int .i64 u2_0), .s (.ref 5)] (.s (.int .i64 (greatestD u2_0 ([v1_1])))) [] (by kernel_rfl) (goes_of (by kernel_rfl)) (by kernel_rfl) (by kernel_rfl) (fun _ nV w h => greatestD_calls (nV 5) u2_0 ([v1_1]) w (h.reads (id := 5) (kd := .own) (e := 3) (by kernel_rfl)) ) ?_
    refine WPO_all tt_ok (by kernel_rfl) ?_
    refine WP_join (decide ((greatestD u2_0 ([v1_1])) > v1_1)) (fun q => ⟨83, [(6, [], .s (.int .i64 (bif q then u2_0 else v1_1))), (5, [], .s (.int .i64 (bif q then (k1 : Int) else v1_2))), (21, [], .s (.int .i64 (k1 : Int))), (20, [], .s (.int .i64 (b.loads.length : Int))), (19, [], .s (.ref 0)), (1, [], .s (.p 3 0))], [(5, .sl .own 3 1 ([v1_1]) encI 0), (4, .box 61 [.int .i64 (b.loads.getD k1 zLoad).w.lo, .int .i64 (b.loads.getD k1 zLoad).w.hi, .int .i64 (b.loads.getD k1 zLoad).lanes]), (3, .box 24 [.ref 0, .int .i64 b.rule, .int .i64 b.most]), (0, .sl .ro 61 3 b.loads encLoad zLoad), (1, .pf NobodyAt (· = 1)), (2, .pf LanesAt (· = 0))], 6, []⟩) (by kernel_rfl) (fun hc8 => ?_) (fun hc8 => ?_) ?_
    · have hc8' := of_decide_eq_true hc8
      refine WP_region (WPO_all tt_ok (by kernel_rfl) ?_)
      exact Le_sel (ts := [6, 5, 21, 20, 19, 1]) (ids := [5, 4, 3, 0, 1, 2]) (nx := 6) (by kernel_rfl)
    · have hc8' := of_decide_eq_false hc8
      refine WP_skip ?_
      exact Le_sel (ts := [6, 5, 21, 20, 19, 1]) (ids := [5, 4, 3, 0, 1, 2]) (nx := 6) (by kernel_rfl)
    refine WP_region (WPO_all tt_ok (by kernel_rfl) ?_)
    show Q1 .normal _
    exact LA_go hq1 (ci := IntKind.i64.wrap ((k1 : Int) + 1)) (bif (decide ((greatestD u2_0 ([v1_1])) > v1_1)) then u2_0 else v1_1, bif (decide ((greatestD u2_0 ([v1_1])) > v1_1)) then (k1 : Int) else v1_2) hk1 (by show _ = ((k1 + 1 : Nat) : Int); rw [wrapI (by omega) (by omega)]; omega) (loopR_go hi1 hk1 hc3 (by unfold weighA_b1; simp only [hc5, hR2, cond_true, cond_false])) trivial (Le_sel (ts := [21, 20, 19, 6, 5, 1]) (ids := [3, 0, 1, 2]) (nx := 4) (by kernel_rfl))
  intro zz hR1 hP1 s' hl
  obtain ⟨u1_0, u1_1⟩ := zz
  refine WP_le hl ?_
  clear hl s'
  refine WP_seq (WP_seq (WP_region (WPO_all tt_ok (by kernel_rfl) ?_)))
  refine WP_cond (decide (u1_1 < 0)) (by kernel_rfl) (fun hc10 => ?_) (fun hc10 => ?_)
  · have hc10' := of_decide_eq_true hc10
    refine WP_seq (WP_region (WPO_all tt_ok (by kernel_rfl) ?_))
    refine WP_ret ?_
    exact ⟨.t [(false, [.int .i64 0]), (false, [.int .i64 4])], by kernel_rfl, fun nV w' h => ⟨by rw [show weighA b = (0, 4) from by unfold weighA; simp only [hc2, hR1, hc10, cond_true, cond_false]]; rfl, h.bel⟩⟩
  have hc10' := of_decide_eq_false hc10
  refine WP_skip ?_
  refine WP_seq (WP_region (WPO_all tt_ok (by kernel_rfl) ?_))
  refine WP_ret ?_
  exact ⟨.t [(false, [.int .i64 u1_1]), (false, [.int .i64 0])], by kernel_rfl, fun nV w' h => ⟨by rw [show weighA b = (u1_1, 0) from by unfold weighA; simp only [hc2, hR1, hc10, cond_true, cond_false]]; rfl, h.bel⟩⟩
end Go.Proofs.YthfnedbpmdkdjaaDoor.D
