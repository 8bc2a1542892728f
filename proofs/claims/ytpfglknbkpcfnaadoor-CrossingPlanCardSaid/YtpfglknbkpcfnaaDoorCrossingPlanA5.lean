/-
 CrossingPlan: for every book the law returns true, and leaves it as it was. Conditions: none but the row's own.
-/
import Derived.Test.YtpfglknbkpcfnaaDoorCrossingPlanA4
import Derived.ArgAppend
import Derived.Below
import Derived.Carry
import Derived.ChangeKeysEq
import Derived.ControlIn
import Derived.Deep.DeepHandedRow
import Derived.Deep.DeepWitnessRowRef
import Derived.Deep.Draws
import Derived.Deep.Quiet
import Derived.Deep.Slices
import Derived.KernelRfl
import Derived.LaidMore
import Derived.Laws.AppendOwn
import Derived.Laws.Cells
import Derived.Laws.CopyRow
import Derived.Laws.IdiomCopy
import Derived.Laws.IdiomRangeMap
import Derived.Laws.OwnMore
import Derived.Laws.Rows
import Derived.MapKept
import Derived.Maps.AppendAt
import Derived.OpenShut
import Derived.OrdersHeld
import Derived.OrdersIn
import Derived.ProofKit
import Derived.RangeFuncLeaves
import Derived.RangeFuncNested
import Derived.RangeFuncOwn
import Derived.SevenTiedAt
import Derived.SizedLaws
import Derived.Stop.Joined
import Derived.Test.YtpfglknbkpcfnaaDoorCards
import Derived.Test.YtpfglknbkpcfnaaDoorProg
import Derived.Test.YtpfglknbkpcfnaaDoorRows
import Derived.Test.YtpfglknbkpcfnaaDoorTie
import Derived.WalkKit
import Derived.WideKeyRuns
set_option linter.all false
namespace Go.Proofs.YtpfglknbkpcfnaaDoor.X
open Go Go.RowKit Go.Proofs.YtpfglknbkpcfnaaDoor.Eng Go.Proofs.YtpfglknbkpcfnaaDoor.Fw
def CrossingPlanL (b : XBook) : Bool :=
 (bif !(soundL b) then (((planA b).2 == 90) && (((planA b).1.length : Int) == 0)) || false else (bif !(true2L b) then (((((planA b).2 == 92) && ((waitsA b).2 == (planA b).2)) && ((manyA b).2 == (planA b).2)) && ((IntKind.i64.wrap ((IntKind.i64.wrap (((planA b).1.length : Int) + (waitsA b).1)) + (manyA b).1)) == 0)) || false else (bif ((!(runL b).2.2) || ((manyA b).2 != 0)) || ((manyA b).1 != ((runL b).2.1.length : Int)) then false else (bif decide ((manyA b).1 < (b.trips.length : Int)) then (((((planA b).2 == 4) && ((waitsA b).2 == (planA b).2)) && (((planA b).1.length : Int) == 0)) && ((waitsA b).1 == 0)) || false else (((((planA b).2 == 0) && ((waitsA b).2 == 0)) && (alikeF (planA b).1 (runL b).2.1)) && ((waitsA b).1 == (IntKind.i64.wrap ((sumOfF (runL b).2.1) - (sumOfF (runL b).1))))) || false))))
theorem CrossingPlanL_calls (g0 g1 g2 g3 g4 : Value) (b : XBook) (w : World) (r0 : Reads w g0 2 b.lan.tides encSpan zSpan) (r1 : Reads w g1 3 b.lan.sounds encSound zSound) (r2 : Reads w g2 5 b.fw.ships encShip zShip) (r3 : Reads w g3 4 b.fw.sights encSight zSight) (r4 : Reads w g4 2 b.trips encTrip zTrip) (ha : AsksAt w) (hun : UnknownAt w) (hnw0 : NowhereAt w) (hla : LAsksAt w) (hsd : SidesAt w) (hxn : XNowhereAt w) (hfe : ferriedL = true) : Calls Tryd.prog 6 #[.agg ((xV g0 b g1 g2 g3 g4).toArray)] w fun e w' => e = .returned (.bool (CrossingPlanL b)) ∧ Below w.heap.size w w' := by
 refine CW tt_ok [g0, g1, g2, g3, g4] 5 [.g (xQ b)] (roX b ((5, .pf AsksAt (· = 5)) :: hp5)) 11 Tryd.func6 rfl rfl rfl (by simp [r0.one, r1.one, r2.one, r3.one, r4.one]) ⟨ro_in r0, ro_in r1, ro_in r2, ro_in r3, ro_in r4, pf_in ha, pf_in hun, pf_in hnw0, pf_in hla, pf_in hsd, pf_in hxn, trivial⟩ ?_
 have hl0 := Reads.len r0
 have hl1 := Reads.len r1
 have hl2 := Reads.len r2
 have hl3 := Reads.len r3
 have hl4 := Reads.len r4
 refine WSA tt_ok ?_
 refine WSR tt_ok 1 ?_
 refine CALLR 23 [.g (xQ b)] (.t [(false, [.ref 12]), (false, [.int .i64 (planA b).2])]) 3 1 (planA b).1 encI 0 12 (by kernel_rfl) (by kernel_rfl) (goes_of (by kernel_rfl)) (by kernel_rfl) (by kernel_rfl) (by decide) (fun _ => rfl) (fun nV w h => (planA_calls (nV 0) (nV 1) (nV 2) (nV 3) (nV 4) b w (h.rd 0 24) (h.rd 1 112) (h.rd 2 103) (h.rd 3 105) (h.rd 4 60) (h.ft 5 5) (h.ft 6 4) (h.ft 7 3) (h.ft 8 1) (h.ft 9 0) (h.ft 10 2) ).mono fun e w' h1 => weak_fresh h1) ?_
 refine WPA tt_ok ?_
 refine WP_seq (WP_seq (WP_region (WPO_run tt_ok 1 (by kernel_rfl) ?_)))
 refine CAL 13 [.g (xQ b)] (.s (.bool (soundL b))) [] (fun hG nV w h => soundL_calls (nV 0) (nV 1) (nV 2) (nV 3) (nV 4) b w (h.rd 0 24) (h.rd 1 112) (h.rd 2 103) (h.rd 3 105) (h.rd 4 60) ) ?_
 refine WPA tt_ok ?_
 refine WP_cond (!(soundL b)) (by kernel_rfl) (fun hc2 => ?_) (fun hc2 => ?_)
 ·have hc2' := hc2; try simp only [bfs, ne_eq] at hc2'
  refine WSR tt_ok 8 ?_
  refine CAL 14 [] (.s (.bool true)) [(((planA b).2 == 90) && (((planA b).1.length : Int) == 0), true)] (fun _ nV w h => ferriedL_is hfe w (h.ft 5 5) (h.ft 6 4) (h.ft 7 3) (h.ft 8 1) (h.ft 9 0) (h.ft 10 2)) ?_
  refine WPA tt_ok ?_
  refine WP_ret ?_
  exact ⟨.s (.bool ((((planA b).2 == 90) && (((planA b).1.length : Int) == 0)) || false)), by kernel_rfl, fun nV w' h => ⟨by rw [show CrossingPlanL b = ((((planA b).2 == 90) && (((planA b).1.length : Int) == 0)) || false) from by unfold CrossingPlanL; simp only [hc2, cond_true, cond_false]]; rfl, h.bel⟩⟩
 have hc2' := hc2; try simp only [bfs, ne_eq] at hc2'
 refine WP_skip ?_
 have hvX := sound_valid (by assumption)
 have he := hvX.each.1
 have hnt := hvX.nt
 have hnt1 := hvX.nt.1
 have hnt4 := hvX.nt.2
 have hcr := hvX.fw.cr
 have htu := hvX.turn
 have hsh := hvX.shore
 have hns := hvX.fw.nships
 have hng := hvX.fw.nsights
 refine WSR tt_ok 1 ?_
 refine CAL 24 [.g (xQ b)] (.t [(false, [.int .i64 (waitsA b).1]), (false, [.int .i64 (waitsA b).2])]) [] (fun hG nV w h => waitsA_calls (nV 0) (nV 1) (nV 2) (nV 3) (nV 4) b w (h.rd 0 24) (h.rd 1 112) (h.rd 2 103) (h.rd 3 105) (h.rd 4 60) (h.ft 5 5) (h.ft 6 4) (h.ft 7 3) (h.ft 8 1) (h.ft 9 0) (h.ft 10 2) ) ?_
 refine WPA tt_ok ?_
 refine WSR tt_ok 1 ?_
 refine CAL 25 [.g (xQ b)] (.t [(false, [.int .i64 (manyA b).1]), (false, [.int .i64 (manyA b).2])]) [] (fun hG nV w h => manyA_calls (nV 0) (nV 1) (nV 2) (nV 3) (nV 4) b w (h.rd 0 24) (h.rd 1 112) (h.rd 2 103) (h.rd 3 105) (h.rd 4 60) (h.ft 5 5) (h.ft 6 4) (h.ft 7 3) (h.ft 8 1) (h.ft 9 0) (h.ft 10 2) ) ?_
 refine WPA tt_ok ?_
 refine WP_seq (WP_seq (WP_region (WPO_run tt_ok 1 (by kernel_rfl) ?_)))
 refine CAL 17 [.g (xQ b)] (.s (.bool (true2L b))) [] (fun hG nV w h => true2L_calls (nV 0) (nV 1) (nV 2) (nV 3) (nV 4) b w (h.rd 0 24) (h.rd 1 112) (h.rd 2 103) (h.rd 3 105) (h.rd 4 60) (h.ft 5 5) (h.ft 6 4) (h.ft 7 3) ) ?_
 refine WPA tt_ok ?_
 refine WP_cond (!(true2L b)) (by kernel_rfl) (fun hc4 => ?_) (fun hc4 => ?_)
 ·have hc4' := hc4; try simp only [bfs, ne_eq] at hc4'
  refine WSR tt_ok 22 ?_
  refine CAL 14 [] (.s (.bool true)) [(((((planA b).2 == 92) && ((waitsA b).2 == (planA b).2)) && ((manyA b).2 == (planA b).2)) && ((IntKind.i64.wrap ((IntKind.i64.wrap (((planA b).1.length : Int) + (waitsA b).1)) + (manyA b).1)) == 0), true)] (fun _ nV w h => ferriedL_is hfe w (h.ft 5 5) (h.ft 6 4) (h.ft 7 3) (h.ft 8 1) (h.ft 9 0) (h.ft 10 2)) ?_
  refine WPA tt_ok ?_
  refine WP_ret ?_
  exact ⟨.s (.bool ((((((planA b).2 == 92) && ((waitsA b).2 == (planA b).2)) && ((manyA b).2 == (planA b).2)) && ((IntKind.i64.wrap ((IntKind.i64.wrap (((planA b).1.length : Int) + (waitsA b).1)) + (manyA b).1)) == 0)) || false)), by kernel_rfl, fun nV w' h => ⟨by rw [show CrossingPlanL b = ((((((planA b).2 == 92) && ((waitsA b).2 == (planA b).2)) && ((manyA b).2 == (planA b).2)) && ((IntKind.i64.wrap ((IntKind.i64.wrap (((planA b).1.length : Int) + (waitsA b).1)) + (manyA b).1)) == 0)) || false) from by unfold CrossingPlanL; simp only [hc2, hc4, cond_true, cond_false]]; rfl, h.bel⟩⟩
 have hc4' := hc4; try simp only [bfs, ne_eq] at hc4'
 refine WP_skip ?_
 refine WSR tt_ok 1 ?_
 refine CALLRS 26 [.g (xQ b)] (.t [(false, [.ref 13]), (false, [.ref 14]), (false, [.bool (runL b).2.2])]) [⟨3, 1, _, (runL b).1, encI, 0⟩, ⟨3, 1, _, (runL b).2.1, encI, 0⟩] 13 (by kernel_rfl) (by kernel_rfl) (goes_of (by kernel_rfl)) (by kernel_rfl) (by kernel_rfl) ⟨⟨(Nat.le_of_ble_eq_true rfl), fun _ => rfl⟩, ⟨(Nat.le_of_ble_eq_true rfl), fun _ => rfl⟩, trivial⟩ (fun nV w h => (runL_calls (nV 0) (nV 1) (nV 2) (nV 3) (nV 4) b w (h.rd 0 24) (h.rd 1 112) (h.rd 2 103) (h.rd 3 105) (h.rd 4 60) (h.ft 5 5) (h.ft 6 4) (h.ft 7 3) (h.ft 8 1) (h.ft 9 0) (h.ft 10 2) (by first | assumption | omega | (simp only [List.length_set, List.nil_append, List.length_append, List.length_nil]; omega))).mono fun e w' ⟨v0, v1, h1, h2, h3, _⟩ => ⟨[v0, v1], h1, h2, h3⟩) ?_
 refine WPA tt_ok ?_
 refine WP_seq (WSA tt_ok ?_)
 refine WP_cond (((!(runL b).2.2) || ((manyA b).2 != 0)) || ((manyA b).1 != ((runL b).2.1.length : Int))) (by kernel_rfl) (fun hc6 => ?_) (fun hc6 => ?_)
 ·have hc6' := hc6; try simp only [bfs, ne_eq] at hc6'
  refine WSA tt_ok ?_
  refine WP_ret ?_
  exact ⟨.s (.bool false), by kernel_rfl, fun nV w' h => ⟨by rw [show CrossingPlanL b = false from by unfold CrossingPlanL; simp only [hc2, hc4, hc6, cond_true, cond_false]]; rfl, h.bel⟩⟩
 have hc6' := hc6; try simp only [bfs, ne_eq] at hc6'
 refine WP_skip ?_
 refine WP_seq (WSA tt_ok ?_)
 refine WP_cond (decide ((manyA b).1 < (b.trips.length : Int))) (by kernel_rfl) (fun hc8 => ?_) (fun hc8 => ?_)
 ·have hc8' := of_decide_eq_true hc8
  refine WSR tt_ok 17 ?_
  refine CAL 14 [] (.s (.bool true)) [(((((planA b).2 == 4) && ((waitsA b).2 == (planA b).2)) && (((planA b).1.length : Int) == 0)) && ((waitsA b).1 == 0), true)] (fun _ nV w h => ferriedL_is hfe w (h.ft 5 5) (h.ft 6 4) (h.ft 7 3) (h.ft 8 1) (h.ft 9 0) (h.ft 10 2)) ?_
  refine WPA tt_ok ?_
  refine WP_ret ?_
  exact ⟨.s (.bool ((((((planA b).2 == 4) && ((waitsA b).2 == (planA b).2)) && (((planA b).1.length : Int) == 0)) && ((waitsA b).1 == 0)) || false)), by kernel_rfl, fun nV w' h => ⟨by rw [show CrossingPlanL b = ((((((planA b).2 == 4) && ((waitsA b).2 == (planA b).2)) && (((planA b).1.length : Int) == 0)) && ((waitsA b).1 == 0)) || false) from by unfold CrossingPlanL; simp only [hc2, hc4, hc6, hc8, cond_true, cond_false]]; rfl, h.bel⟩⟩
 have hc8' := of_decide_eq_false hc8
 refine WP_skip ?_
 refine WSR tt_ok 9 ?_
 refine CAL 27 [.s (.ref 12), .s (.ref 14)] (.s (.bool (alikeF (planA b).1 (runL b).2.1))) [(((planA b).2 == 0) && ((waitsA b).2 == 0), true)] (fun hG nV w h => alikeF_calls (nV 12) (nV 14) (planA b).1 (runL b).2.1 w (h.rd 12 3) (h.rd 14 3) ) ?_
 refine WPO_run tt_ok 4 (by kernel_rfl) ?_
 refine CAL 28 [.s (.ref 14)] (.s (.int .i64 (sumOfF (runL b).2.1))) [((((planA b).2 == 0) && ((waitsA b).2 == 0)) && (alikeF (planA b).1 (runL b).2.1), true)] (fun hG nV w h => sumOfF_calls (nV 14) (runL b).2.1 w (h.rd 14 3) ) ?_
 refine WPO_run tt_ok 1 (by kernel_rfl) ?_
 refine CAL 28 [.s (.ref 13)] (.s (.int .i64 (sumOfF (runL b).1))) [((((planA b).2 == 0) && ((waitsA b).2 == 0)) && (alikeF (planA b).1 (runL b).2.1), true)] (fun hG nV w h => sumOfF_calls (nV 13) (runL b).1 w (h.rd 13 3) ) ?_
 refine WPO_run tt_ok 4 (by kernel_rfl) ?_
 refine CAL 14 [] (.s (.bool true)) [(((((planA b).2 == 0) && ((waitsA b).2 == 0)) && (alikeF (planA b).1 (runL b).2.1)) && ((waitsA b).1 == (IntKind.i64.wrap ((sumOfF (runL b).2.1) - (sumOfF (runL b).1)))), true)] (fun _ nV w h => ferriedL_is hfe w (h.ft 5 5) (h.ft 6 4) (h.ft 7 3) (h.ft 8 1) (h.ft 9 0) (h.ft 10 2)) ?_
 refine WPA tt_ok ?_
 refine WP_ret ?_
 exact ⟨.s (.bool ((((((planA b).2 == 0) && ((waitsA b).2 == 0)) && (alikeF (planA b).1 (runL b).2.1)) && ((waitsA b).1 == (IntKind.i64.wrap ((sumOfF (runL b).2.1) - (sumOfF (runL b).1))))) || false)), by kernel_rfl, fun nV w' h => ⟨by rw [show CrossingPlanL b = ((((((planA b).2 == 0) && ((waitsA b).2 == 0)) && (alikeF (planA b).1 (runL b).2.1)) && ((waitsA b).1 == (IntKind.i64.wrap ((sumOfF (runL b).2.1) - (sumOfF (runL b).1))))) || false) from by unfold CrossingPlanL; simp only [hc2, hc4, hc6, hc8, cond_true, cond_false]]; rfl, h.bel⟩⟩
theorem alike_self (l : List Int) : alikeF l l = true := by
 unfold alikeF
 rw [show ((l.length : Int) != (l.length : Int)) = false by simp]
 rw [loopR_find (fun _ => false) (fun _ => false) (fun k hk => by simp only [alikeF_c1]; rw [decide_eq_true]; omega) (fun k hk => by simp only [alikeF_b1]; simp)]
 have : (List.range l.length).find? (fun _ => false) = none := List.find?_eq_none.2 fun x _ h => by cases h
 rw [this]; rfl
theorem range_foldl {α β : Type} (f : β → α → β) (z : α) : ∀ (l : List α) (v : β), (List.range l.length).foldl (fun v k => f v (l.getD k z)) v = l.foldl f v := by
 intro l
 induction l with
 | nil => intro v; rfl
 | cons x r ih =>
  intro v
  rw [List.length_cons, List.range_succ_eq_map, List.foldl_cons, List.foldl_map, List.foldl_cons]
  exact ih _
theorem sumOf_eq {l : List Int} (h : ∀ x ∈ l, 0 ≤ x ∧ x ≤ 1000) (hl : l.length ≤ 100) : sumOfF l = l.sum ∧ 0 ≤ l.sum ∧ l.sum ≤ 1000 * l.length := by
 have key : ∀ (l : List Int) (v : Int), (∀ x ∈ l, 0 ≤ x ∧ x ≤ 1000) → 0 ≤ v → v + 1000 * l.length ≤ 1000000 → l.foldl (fun v x => IntKind.i64.wrap (v + x)) v = v + l.sum ∧ 0 ≤ l.sum ∧ l.sum ≤ 1000 * l.length := by
  intro l
  induction l with
  | nil => intro v _ _ _; simp
  | cons x r ih =>
   intro v h hv hb
   have hx := h x List.mem_cons_self
   simp only [List.length_cons] at hb
   have hw : IntKind.i64.wrap (v + x) = v + x := wrapI (by omega) (by omega)
   rw [List.foldl_cons, hw]
   obtain ⟨h1, h2, h3⟩ := ih (v + x) (fun y hy => h y (List.mem_cons_of_mem _ hy)) (by omega) (by omega)
   rw [h1, List.sum_cons, List.length_cons]
   omega
 unfold sumOfF
 rw [loopR_foldl (b := sumOfF_b1 l) (c := sumOfF_c1 l) (fun k v => IntKind.i64.wrap (v + l.getD k 0)) (fun k v hk => by simp only [sumOfF_c1]; rw [decide_eq_true]; omega) (fun k v hk => rfl)]
 simp only
 have := key l 0 h (Int.le_refl _) (by omega)
 rw [range_foldl (fun v x => IntKind.i64.wrap (v + x)) 0 l 0, this.1]
 exact ⟨by omega, this.2⟩
theorem modF2 {x : Int} (h : 0 ≤ x) : modF x 2 = x % 2 := by
 unfold modF
 rw [show decide ((2 : Int) ≤ 0) = false from rfl]
 have h1 : Int.tmod x 2 = x % 2 := Int.tmod_eq_emod_of_nonneg h
 simp only [cond_false, h1]
 rw [decide_eq_false (by omega)]; rfl
theorem valid_sound {b : XBook} (hb : ValidX b) : soundL b = true := by
 have h1 := checkX_valid.2 hb
 have h2 := checkL_valid.2 hb.lan
 have h3 := check_valid.2 hb.fw
 have h4 := hb.each; have h5 := hb.shore; have h6 := hb.turn; have h7 := hb.nt; have h8 := hb.fw.cr; have h9 := hb.fw.nships; have h10 := hb.fw.nsights
 have key : ∀ (m k : Nat), k + m = b.trips.length → loopR (soundL_c1 b) (soundL_b1 b) m k true = .brk true := by
  intro m
  induction m with
  | zero => intro k _; rfl
  | succ m ih =>
   intro k hk
   have hk2 : k < b.trips.length := by omega
   have hx := hb.trips _ (getD_mem (z := zTrip) hk2)
   have := loopR_step (c := soundL_c1 b) (b := soundL_b1 b) (s := true) hk2 (by simp only [soundL_c1, Bool.true_and]; rw [decide_eq_true]; omega)
   rw [show b.trips.length - k = m + 1 by omega, show b.trips.length - (k + 1) = m by omega] at this
   rw [this]
   have hb1 : soundL_b1 b k true = .go true := by
    simp only [soundL_b1]
    rw [insideF_t hx.1, insideF_t hx.2]; rfl
   rw [hb1]
   exact ih (k + 1) (by omega)
 unfold soundL
 rw [h1, h2, h3, insideF_t h4, insideF_t h5, insideF_t h6, insideF_t (by omega), insideF_t h8, decide_eq_true (by omega), decide_eq_true (by omega)]
 rw [show ((((((((((((0 : Int) == 0) && ((0 : Int) == 0)) && ((0 : Int) == 0)) && true) && true) && true) && true) && true) && true) && true)) = true from rfl, key b.trips.length 0 (by omega)]
theorem sound_not {b : XBook} (h : (!(soundL b)) = true) : checkX b = 90 := by
 rcases checkX_two b with h1 | h1
 ·rw [valid_sound (checkX_valid.1 h1)] at h; cases h
 exact h1
section
variable {b : XBook} (hb : ValidX b)
include hb
theorem planA_F (hr : rightX b = false) : planA b = ([], 92) := by unfold planA; rw [err_valid hb, hr]; rfl
theorem waitsA_F (hr : rightX b = false) : waitsA b = (0, 92) := by unfold waitsA; rw [err_valid hb, hr]; rfl
theorem manyA_F (hr : rightX b = false) : manyA b = (0, 92) := by unfold manyA; rw [err_valid hb, hr]; rfl
theorem planA_T (hr : rightX b = true) : planA b = if (goB b).length < b.trips.length then ([], 4) else ((goB b).map Prod.snd, 0) := by
 unfold planA plnX
 rw [err_valid hb, hr, plan_go hb, List.length_map]
 by_cases h : (goB b).length < b.trips.length
 ·rw [if_pos h, decide_eq_true (by omega)]; rfl
 rw [if_neg h, decide_eq_false (by omega)]; rfl
theorem waitsA_T (hr : rightX b = true) : waitsA b = if (goB b).length < b.trips.length then (0, 4) else (sumW (goB b), 0) := by
 unfold waitsA plnX
 rw [err_valid hb, hr, plan_go hb, List.length_map]
 by_cases h : (goB b).length < b.trips.length
 ·rw [if_pos h, decide_eq_true (by omega)]; rfl
 rw [if_neg h, decide_eq_false (by omega)]; rfl
theorem manyA_T (hr : rightX b = true) : manyA b = (((goB b).length : Int), 0) := by
 unfold manyA
 rw [err_valid hb, hr, plan_go hb, List.length_map]; rfl
end
theorem goT_in {S : Int → Int → Int → Bool} {cr turn : Int} (hcr : 0 ≤ cr ∧ cr ≤ 20) (htu : 0 ≤ turn ∧ turn ≤ 30) : ∀ (l : List Trip) (sh m : Int), 0 ≤ m → (∀ x ∈ l, 0 ≤ x.ready) → ∀ y ∈ goT S cr turn l sh m, (0 ≤ y.1 ∧ y.1 ≤ y.2) ∧ y.2 ≤ 60 := by
 intro l
 induction l with
 | nil => intro sh m _ _ y hy; cases hy
 | cons x r ih =>
  intro sh m hm hl y hy
  simp only [goT] at hy
  have hx := hl x List.mem_cons_self
  cases hn : nxt (S sh x.load) (max m x.ready) with
  | none => rw [hn] at hy; cases hy
  | some n =>
   rw [hn] at hy
   obtain ⟨⟨h1, h2⟩, _, _⟩ := nxt_some.1 hn
   rcases List.mem_cons.1 hy with rfl | hy
   ·exact ⟨⟨by show 0 ≤ max m x.ready; omega, h2⟩, h1.2⟩
   exact ih _ _ (by omega) (fun z hz => hl z (List.mem_cons_of_mem _ hz)) y hy
theorem goB_in {b : XBook} (hb : ValidX b) : ∀ y ∈ goB b, (0 ≤ y.1 ∧ y.1 ≤ y.2) ∧ y.2 ≤ 60 :=
 goT_in ⟨by have := hb.fw.cr; omega, hb.fw.cr.2⟩ hb.turn b.trips b.shore 0 (Int.le_refl _) (fun x hx => (hb.trips x hx).2.1)
theorem goB_len {b : XBook} : (goB b).length ≤ b.trips.length := goT_len _ _ _ _ _ _
theorem sum_pairs (l : List (Int × Int)) : sumW l = (l.map Prod.snd).sum - (l.map Prod.fst).sum := by
 induction l with
 | nil => rfl
 | cons x r ih => rw [sumW_cons, ih]; simp only [List.map_cons, List.sum_cons]; omega
theorem runL_T {b : XBook} (hb : ValidX b) (hr : rightX b = true) : runL b = ((goB b).map Prod.fst, (goB b).map Prod.snd, true) := by
 have hcr := hb.fw.cr; have htu := hb.turn; have hnt := hb.nt; have hsh := hb.shore
 have key : ∀ (m k : Nat) (frm : Int) (dep due : List Int), k + m = b.trips.length → (0 ≤ frm ∧ frm ≤ 200) →
   (match loopR (runL_c1 b) (runL_b1 b) m k (frm, dep, due) with | .brk (u1_0, u1_1, u1_2) => (u1_2, u1_1, true) | .ret r => r) = (due ++ (goT (SX b) b.fw.cr b.turn (b.trips.drop k) ((b.shore + k) % 2) frm).map Prod.fst, dep ++ (goT (SX b) b.fw.cr b.turn (b.trips.drop k) ((b.shore + k) % 2) frm).map Prod.snd, true) := by
  intro m
  induction m with
  | zero =>
   intro k frm dep due hk _
   have : b.trips.drop k = [] := List.drop_eq_nil_iff.2 (by omega)
   rw [this]
   simp [loopR, goT]
  | succ m ih =>
   intro k frm dep due hk hf
   have hlt : k < b.trips.length := by omega
   have hdr : b.trips.drop k = b.trips.getD k zTrip :: b.trips.drop (k + 1) := by
    rw [List.drop_eq_getElem_cons hlt, List.getD_eq_getElem?_getD, List.getElem?_eq_getElem hlt]; rfl
   have hx := hb.trips _ (getD_mem (z := zTrip) hlt)
   have hst := loopR_step (c := runL_c1 b) (b := runL_b1 b) (s := (frm, dep, due)) hlt (by simp only [runL_c1]; rw [decide_eq_true]; omega)
   rw [show b.trips.length - k = m + 1 by omega, show b.trips.length - (k + 1) = m by omega] at hst
   rw [hst, hdr]
   have w0 : IntKind.i64.wrap (b.shore + (k : Int)) = b.shore + k := wrapI (by omega) (by omega)
   have hs2 : 0 ≤ (b.shore + (k : Int)) % 2 ∧ (b.shore + (k : Int)) % 2 ≤ 1 := by omega
   simp only [runL_b1, goT, mx_spec]
   generalize b.trips.getD k zTrip = x at *
   rw [w0, modF2 (by omega)]
   by_cases h60 : max frm x.ready > 60
   ·rw [decide_eq_true h60, cond_true]
    have : nxt (SX b ((b.shore + (k : Int)) % 2) x.load) (max frm x.ready) = none := nxt_none.2 fun y _ h1 h2 => by omega
    rw [this]
    simp
   rw [decide_eq_false h60, cond_false, nextX_T hb hs2 hx.1 (by omega) hr]
   cases hn : nxt (SX b ((b.shore + (k : Int)) % 2) x.load) (max frm x.ready) with
   | none => rw [nxtA_none hn]; simp
   | some n =>
    obtain ⟨⟨h1, h2⟩, _, _⟩ := nxt_some.1 hn
    rw [nxtA_some hn]
    have w1 : IntKind.i64.wrap (n + b.fw.cr) = n + b.fw.cr := wrapI (by omega) (by omega)
    have w2 : IntKind.i64.wrap (n + b.fw.cr + b.turn) = n + b.fw.cr + b.turn := wrapI (by omega) (by omega)
    simp only [bne_self_eq_false, cond_false, w1, w2]
    rw [ih (k + 1) (n + b.fw.cr + b.turn) (dep ++ [n]) (due ++ [max frm x.ready]) (by omega) (by omega)]
    have hp : (b.shore + ((k + 1 : Nat) : Int)) % 2 = 1 - (b.shore + (k : Int)) % 2 := by omega
    rw [hp]
    simp
 unfold runL
 have h := key b.trips.length 0 0 [] [] (by omega) ⟨by omega, by omega⟩
 refine Eq.trans h ?_
 have : (b.shore + ((0 : Nat) : Int)) % 2 = b.shore := by omega
 rw [this]
 simp [goB]
theorem CrossingPlan_true (b : XBook) : CrossingPlanL b = true := by
 unfold CrossingPlanL
 cases hs : !(soundL b) with
 | true =>
  have hc := sound_not hs
  have he : errX b true = 90 := by unfold errX; rw [if_neg (by omega)]; exact hc
  unfold planA
  rw [he]; rfl
 | false =>
  have hb := sound_valid hs
  rw [cond_false, true2_eq hb]
  cases hr : rightX b with
  | false => rw [planA_F hb hr, waitsA_F hb hr, manyA_F hb hr]; rfl
  | true =>
   have hl := goB_len (b := b)
   rw [planA_T hb hr, waitsA_T hb hr, manyA_T hb hr, runL_T hb hr, List.length_map]
   simp only [Bool.not_true, cond_false, bne_self_eq_false, Bool.or_false]
   by_cases h : (goB b).length < b.trips.length
   ·rw [if_pos h, if_pos h, decide_eq_true (by omega)]; rfl
   rw [if_neg h, if_neg h, decide_eq_false (by omega)]
   have hin := goB_in hb
   have hnt := hb.nt
   obtain ⟨s1, s2, s3⟩ := sumOf_eq (l := (goB b).map Prod.snd) (fun x hx => by
    obtain ⟨y, hy, rfl⟩ := List.mem_map.1 hx
    have := hin y hy; omega) (by rw [List.length_map]; omega)
   obtain ⟨t1, t2, t3⟩ := sumOf_eq (l := (goB b).map Prod.fst) (fun x hx => by
    obtain ⟨y, hy, rfl⟩ := List.mem_map.1 hx
    have := hin y hy; omega) (by rw [List.length_map]; omega)
   rw [List.length_map] at s3 t3
   simp only [alike_self, cond_false]
   rw [s1, t1, sum_pairs, wrapI (by omega) (by omega)]
   simp
theorem loopR_last {ρ : Type} {c : Nat → Int → Bool} {b : Nat → Int → Bd Int ρ} {N : Nat} (bad : Nat → Bool) (hc : ∀ k v, k < N → c k v = true) (hb : ∀ k v, k < N → b k v = bif bad k then .brk v else .go (k : Int)) :
  loopR c b N 0 0 = .brk (((match (List.range N).find? bad with | some k => k - 1 | none => N - 1 : Nat)) : Int) := by
 have key : ∀ (m k : Nat), k + m = N → (∀ j, j < k → bad j = false) → loopR c b (N - k) k (((k - 1 : Nat)) : Int) = .brk (((match (List.range N).find? bad with | some k => k - 1 | none => N - 1 : Nat)) : Int) := by
  intro m
  induction m with
  | zero =>
   intro k h hj
   have hn : (List.range N).find? bad = none := List.find?_eq_none.2 fun x hx => by rw [hj x (by have := List.mem_range.1 hx; omega)]; decide
   rw [hn, show N - k = 0 by omega, show k = N by omega]; rfl
  | succ m ih =>
   intro k h hj
   rw [loopR_step (by omega) (hc k _ (by omega)), hb k _ (by omega)]
   cases hbk : bad k with
   | true =>
    have hs : (List.range N).find? bad = some k := by
     rw [List.find?_range_eq_some]
     exact ⟨hbk, List.mem_range.2 (by omega), fun j hj' => by rw [hj j hj']; rfl⟩
    rw [hs]; rfl
   | false =>
    have := ih (k + 1) (by omega) (fun j hj' => by
     rcases Nat.lt_succ_iff_lt_or_eq.1 hj' with h1 | rfl
     ·exact hj j h1
     exact hbk)
    exact this
 exact key N 0 (by omega) (fun j h => by omega)
abbrev dl (b : XBook) (t : Nat) (k : Int) : XBook := ⟨b.lan, b.fw, b.each, b.shore, b.turn, b.trips.set t ⟨(b.trips.getD t zTrip).load, (b.trips.getD t zTrip).ready + k⟩⟩
theorem dl_valid {b : XBook} (hb : ValidX b) {t : Nat} (ht : t < b.trips.length) {k : Int} (h1 : 0 ≤ (b.trips.getD t zTrip).ready + k) (h2 : (b.trips.getD t zTrip).ready + k ≤ 60) : ValidX (dl b t k) := by
 refine ⟨hb.lan, hb.fw, hb.each, hb.shore, hb.turn, by simp only [dl, List.length_set]; exact hb.nt, fun x hx => ?_⟩
 rcases List.mem_or_eq_of_mem_set hx with h | rfl
 ·exact hb.trips x h
 exact ⟨(hb.trips _ (getD_mem (z := zTrip) ht)).1, h1, h2⟩
def lastG (b : XBook) : Int := ((goB b).map Prod.snd).getD (b.trips.length - 1) 0
def badK (b : XBook) (t : Nat) (k : Nat) : Bool := decide ((goB (dl b t k)).length < b.trips.length) || decide (lastG (dl b t k) > lastG b)
section
variable {b : XBook} (hb : ValidX b) (hr : rightX b = true) (hg : (goB b).length = b.trips.length) {t : Nat} (ht : t < b.trips.length)
include hb hr hg ht
theorem late_spec : lateA b (t : Int) = ((((match (List.range (61 - (b.trips.getD t zTrip).ready).toNat).find? (badK b t) with | some k => k - 1 | none => (61 - (b.trips.getD t zTrip).ready).toNat - 1 : Nat)) : Int), 0) := by
 have hnt := hb.nt
 have hrd := (hb.trips _ (getD_mem (z := zTrip) ht)).2
 have hw : IntKind.i64.wrap ((b.trips.length : Int) - 1) = (b.trips.length : Int) - 1 := wrapI (by omega) (by omega)
 have hin : withinX (t : Int) 0 ((b.trips.length : Int) - 1) = true := by unfold withinX; simp only [Bool.and_eq_true, decide_eq_true_eq]; omega
 have hp : plnX b = ((goB b).map Prod.snd, sumW (goB b), 0) := by
  unfold plnX
  rw [plan_go hb, List.length_map, decide_eq_false (by omega)]; rfl
 have htn : ((t : Int)).toNat = t := by omega
 unfold lateA
 rw [hw, hin, err_valid hb, hr, hp, htn]
 simp only [if_true, beq_self_eq_true, cond_true, bne_self_eq_false, cond_false]
 rw [loopR_last (badK b t) (fun k v hk => ?_) (fun k v hk => ?_)]
 ·simp only [lateA_c1, htn]
  rw [show IntKind.i64.wrap (60 - (b.trips.getD t zTrip).ready) = 60 - (b.trips.getD t zTrip).ready from wrapI (by omega) (by omega), wrapI (by omega) (by omega), decide_eq_true]
  omega
 have hk2 : (b.trips.getD t zTrip).ready + (k : Int) ≤ 60 := by omega
 have hv := dl_valid hb ht (k := (k : Int)) (by omega) hk2
 have hpx := plan_go hv
 have hln := goB_len (b := dl b t k)
 simp only [dl, List.length_set] at hln
 simp only [lateA_b1, htn, hp]
 rw [show IntKind.i64.wrap ((b.trips.getD t zTrip).ready + (k : Int)) = (b.trips.getD t zTrip).ready + (k : Int) from wrapI (by omega) (by omega)]
 rw [show planX (⟨b.lan, b.fw, b.each, b.shore, b.turn, b.trips.set t (⟨(b.trips.getD t zTrip).load, (b.trips.getD t zTrip).ready + (k : Int)⟩ : Trip)⟩ : XBook) = _ from hpx]
 simp only [List.length_map]
 rw [hg, show IntKind.i64.wrap ((b.trips.length : Int) - 1) = (b.trips.length : Int) - 1 from hw, show ((b.trips.length : Int) - 1).toNat = b.trips.length - 1 by omega]
 unfold badK lastG
 simp only [dl, List.length_set]
 congr 2
 rw [Bool.eq_iff_iff]
 simp only [decide_eq_true_eq]
 omega
end
def TT (sh load m : Int) : Bool := (if sh = 0 then ([18, 19, 30, 31, 32, 33, 34] : List Int) else [25, 26, 27, 28, 29, 30, 31, 32, 33, 34]).contains m
theorem own_check : checkX ownL = 0 := by kernel_rfl
theorem own_right : rightX ownL = true := by kernel_rfl
theorem own_table : ((List.range 61).all fun y : Nat => (List.range 2).all fun s : Nat => ([20, 0] : List Int).all fun l => SX ownL (s : Int) l (y : Int) == TT (s : Int) l (y : Int)) = true := by kernel_rfl
theorem own_SX {sh load m : Int} (h1 : 0 ≤ sh ∧ sh ≤ 1) (h2 : load = 20 ∨ load = 0) (h3 : 0 ≤ m ∧ m ≤ 60) : SX ownL sh load m = TT sh load m := by
 have := List.all_eq_true.1 own_table m.toNat (List.mem_range.2 (by omega))
 have := List.all_eq_true.1 this sh.toNat (List.mem_range.2 (by omega))
 have := List.all_eq_true.1 this load (by rcases h2 with rfl | rfl <;> simp)
 rw [beq_iff_eq, show ((sh.toNat : Nat) : Int) = sh by omega, show ((m.toNat : Nat) : Int) = m by omega] at this
 exact this
theorem own_go (k : Int) : goB (dl ownL 1 k) = goT TT 5 2 [⟨20, 0⟩, ⟨20, 0 + k⟩, ⟨0, 30⟩] 0 0 := by
 refine goT_congr (S := SX ownL) (T := TT) (cr := 5) (turn := 2) [⟨20, 0⟩, ⟨20, 0 + k⟩, ⟨0, 30⟩] 0 0 ⟨by decide, by decide⟩ (fun x hx sh h1 h2 y h3 h4 => own_SX ⟨h1, h2⟩ ?_ ⟨h3, h4⟩)
 simp only [List.mem_cons, List.not_mem_nil, or_false] at hx
 rcases hx with rfl | rfl | rfl
 ·exact .inl rfl
 ·exact .inl rfl
 exact .inr rfl
theorem own_go0 : goB ownL = [(0, 18), (25, 25), (32, 32)] := by
 have e : goT TT 5 2 [⟨20, 0⟩, ⟨20, 0 + 0⟩, ⟨0, 30⟩] 0 0 = [(0, 18), (25, 25), (32, 32)] := by kernel_rfl
 exact Eq.trans (own_go 0) e
def badT (k : Nat) : Bool := decide ((goT TT 5 2 [⟨20, 0⟩, ⟨20, 0 + (k : Int)⟩, ⟨0, 30⟩] 0 0).length < 3) || decide (((goT TT 5 2 [⟨20, 0⟩, ⟨20, 0 + (k : Int)⟩, ⟨0, 30⟩] 0 0).map Prod.snd).getD 2 0 > 32)
theorem own_bad (k : Nat) : badK ownL 1 k = badT k := by
 unfold badK lastG
 rw [own_go, own_go0]
 rfl
theorem own_late : lateA ownL 1 = (25, 0) := by
 have h := late_spec (checkX_valid.1 own_check) own_right (show (goB ownL).length = ownL.trips.length by rw [own_go0]; rfl) (t := 1) (by decide)
 have hf : (List.range (61 - (ownL.trips.getD 1 zTrip).ready).toNat).find? (badK ownL 1) = some 26 := by
  rw [show badK ownL 1 = badT from funext own_bad]
  kernel_rfl
 rw [hf] at h
 exact h
theorem own_sure : sureA ownL 0 20 18 = (2, 0) := by kernel_rfl
theorem own_next : nextX ownL 0 20 20 = (30, 0) := by kernel_rfl
theorem own_last : lastX ownL 0 20 29 = (19, 0) := by kernel_rfl
theorem own_plan : planA ownL = ([18, 25, 32], 0) := by
 rw [planA_T (checkX_valid.1 own_check) own_right, own_go0]; rfl
theorem own_waits : waitsA ownL = (18, 0) := by
 rw [waitsA_T (checkX_valid.1 own_check) own_right, own_go0]; rfl
theorem heavy_go : goB heavyL = [(0, 18), (25, 25)] := by
 have hc : checkX heavyL = 0 := by kernel_rfl
 have hp : planX heavyL = ([18, 25], 18) := by kernel_rfl
 have hg := plan_go (checkX_valid.1 hc)
 rw [hp] at hg
 have h1 : goT (SX heavyL) 5 2 [⟨20, 0⟩, ⟨20, 0⟩] 0 0 = [(0, 18), (25, 25)] := by
  have := goT_congr (S := SX ownL) (T := TT) (cr := 5) (turn := 2) [⟨20, 0⟩, ⟨20, 0⟩] 0 0 ⟨by decide, by decide⟩ (fun x hx sh h1 h2 y h3 h4 => own_SX ⟨h1, h2⟩ (by
   simp only [List.mem_cons, List.not_mem_nil, or_false] at hx
   rcases hx with rfl | rfl <;> exact .inl rfl) ⟨h3, h4⟩)
  have e : goT TT 5 2 [⟨20, 0⟩, ⟨20, 0⟩] 0 0 = [(0, 18), (25, 25)] := by kernel_rfl
  exact Eq.trans this e
 have hl : (goB heavyL).length = 2 := by
  have := congrArg (fun x : List Int × Int => x.1.length) hg
  simpa using this.symm
 have ht := h1
 have key : (goB heavyL).take 2 = goT (SX heavyL) 5 2 [⟨20, 0⟩, ⟨20, 0⟩] 0 0 := (goT_takeH).symm
 rw [← h1, ← key, List.take_of_length_le (by omega)]
where
 goT_takeH : goT (SX heavyL) 5 2 [⟨20, 0⟩, ⟨20, 0⟩] 0 0 = (goB heavyL).take 2 := by
  unfold goB
  show goT (SX heavyL) 5 2 [⟨20, 0⟩, ⟨20, 0⟩] 0 0 = (goT (SX heavyL) 5 2 [⟨20, 0⟩, ⟨20, 0⟩, ⟨60, 30⟩] 0 0).take 2
  simp only [goT]
  split
  ·rfl
  split
  ·rfl
  split <;> rfl
theorem heavy_many : manyA heavyL = (2, 0) := by
 have hc : checkX heavyL = 0 := by kernel_rfl
 rw [manyA_T (checkX_valid.1 hc) (show rightX heavyL = true from own_right), heavy_go]; rfl
theorem heavy_plan : planA heavyL = ([], 4) := by
 have hc : checkX heavyL = 0 := by kernel_rfl
 rw [planA_T (checkX_valid.1 hc) (show rightX heavyL = true from own_right), heavy_go]; rfl
theorem single_ship : shipA singleL = (1, 0) := by kernel_rfl
theorem ferriedL_true : ferriedL = true := by
 unfold ferriedL
 rw [own_sure, own_next, own_last, own_plan, own_waits, heavy_many, own_late, single_ship, heavy_plan]
 kernel_rfl
end Go.Proofs.YtpfglknbkpcfnaaDoor.X
namespace Go.Proofs.YtpfglknbkpcfnaaDoor.X
open Go Go.ChangeShapes Go.WideShapes Go.RowKit Go.Proofs.YtpfglknbkpcfnaaDoor.Eng Go.Proofs.YtpfglknbkpcfnaaDoor.Fw
set_option maxRecDepth 100000
namespace CrossingPlan
theorem door_met_crossingPlan (os : Os) (args : Array Value) : laidMetH Tryd.prog Rows.crossingPlanRow.laid ((World.doorLaid Tryd.prog 60 os).forCall (fun _ _ => 0) ⟨#[], args, []⟩).memory :=
 laidMetH_of_parts3 (fuel := 8) (laidMet_of_run' 8 (by kernel_rfl) (by kernel_rfl)) (by kernel_rfl) (by kernel_rfl)
theorem contract (H : Type) (enc : TypeId × Value → H) (W : World) (base : Nat) (args : Array Value) (ds gs : List (DataW H)) (before : List MemPlace)
  (hval : ∀ (j : Nat) t v, Tryd.f6.params[j]? = some t → args[j]? = some v → Value.okWide Tryd.prog W .any base t v)
  (hW : DataW.Whole enc Tryd.prog Tryd.f6.params.toList Rows.crossingPlanSpec.vars false W args.toList ds gs before)
  (hsz0 : (DataW.weightsEach Tryd.prog (Tryd.f6.params.toList ++ []) (ds ++ gs)).all (fun x => decide (x ≤ reachBytes)) = true) (hL : laidMetH Tryd.prog Rows.crossingPlanRow.laid W) (hS : W.ShapedOpen Tryd.prog) :
  Calls Tryd.prog 6 args W fun e W' => ∃ v, e = .returned v ∧ Rows.crossingPlanSpec.post enc Tryd.prog Tryd.f6 false true false false W args v W' := by
 have hW' := hW
 obtain ⟨p, q, hA0, hV, rfl, hfz, hnd⟩ := hW
 have hA : DataW.TrodAll enc Tryd.prog W 0 (fun _ => true) true Tryd.f6.params.toList args.toList ds p := hA0
 rw [Tryd.params6] at hA hval hsz0
 clear hA0
 obtain ⟨v0, vs0, d0, ds0, p0, q0, hargs, rfl, rfl, h0, r0⟩ := trodAll_cons hA
 obtain ⟨rfl, rfl, rfl⟩ := trodAll_nil r0
 obtain rfl : args = #[v0] := by apply Array.ext'; rw [hargs]
 obtain ⟨rfl, rfl⟩ := trodVars_none hV
 have hsz : (DataW.weightsEach Tryd.prog [37] [d0]).all (fun x => decide (x ≤ reachBytes)) = true := by simpa using hsz0
 have hb0 : Wb Tryd.prog 37 d0 := Bd_each hsz (j := 0) rfl rfl
 obtain ⟨c0, rfl, ⟨g0_0, g0_1, g0_2, g0_3, g0_4, x0, y0, q0_0, q0_1, q0_2, q0_3, q0_4, q0_5, q0_6, q0_7, q0_8, q0_9, q0_10, q0_11, q0_12, q0_13, q0_14, q0_15, q0_16, q0_17, q0_18, q0_19, q0_20, q0_21, q0_22, q0_23, q0_24, _⟩⟩ := arg_agg Tryd.underlying37 (hval 0 37 v0 rfl rfl) h0 hb0 opn37
 rw [agg_of y0] at *
 have ha := cx_of hS hL
 have hc := CrossingPlanL_calls g0_0 g0_1 g0_2 g0_3 g0_4 x0 W q0_0.1 q0_1.1 q0_2.1 q0_3.1 q0_4.1 ha.1 ha.2.1 ha.2.2.1 ha.2.2.2.1 ha.2.2.2.2.1 ha.2.2.2.2.2 ferriedL_true
 refine hc.mono fun e W' ⟨he, hb⟩ => ?_
 refine ⟨.bool true, he.trans (by rw [CrossingPlan_true x0]), law_post laidOut (fun u hu => ?_) hW' rfl (by kernel_rfl) Tryd.underlying4 rfl rfl rfl hb⟩
 have hall : ([37] : List TypeId).all (fun u => Tryd.prog.readableRec u && decide (u < Tryd.prog.types.size)) = true := by kernel_rfl
 have hu' : u ∈ ([37] : List TypeId) := hu
 have := List.all_eq_true.1 hall u hu'
 simp only [Bool.and_eq_true, decide_eq_true_eq] at this
 exact this
theorem reads (os : Os) {H : Type} (enc : TypeId × Value → H) : ∃ places, DataW.whole enc Tryd.prog ((World.doorLaid Tryd.prog 60 os).forCall (fun _ _ => 0) ⟨#[], #[.agg #[.slice none 0 0, .int .i64 0, .int .i64 0, .int .i64 0, .int .i64 0, .int .i64 0, .int .i64 0, .int .i64 0, .int .i64 0, .int .i64 0, .int .i64 0, .int .i64 0, .int .i64 0, .slice none 0 0, .slice none 0 0, .int .i64 0, .int .i64 0, .int .i64 0, .int .i64 0, .int .i64 0, .slice none 0 0, .int .i64 0, .int .i64 0, .int .i64 0, .slice none 0 0]], []⟩).memory Tryd.f6.params.toList Rows.crossingPlanSpec.vars false (#[.agg #[.slice none 0 0, .int .i64 0, .int .i64 0, .int .i64 0, .int .i64 0, .int .i64 0, .int .i64 0, .int .i64 0, .int .i64 0, .int .i64 0, .int .i64 0, .int .i64 0, .int .i64 0, .slice none 0 0, .slice none 0 0, .int .i64 0, .int .i64 0, .int .i64 0, .int .i64 0, .int .i64 0, .slice none 0 0, .int .i64 0, .int .i64 0, .int .i64 0, .slice none 0 0]] : Array Value).toList 8 = some ([.agg [.agg [.nil, .agg [.agg [.agg [.lit (.int .i64 0), .lit (.int .i64 0)], .lit (.int .i64 0), .lit (.int .i64 0)], .agg [.agg [.lit (.int .i64 0), .lit (.int .i64 0)], .lit (.int .i64 0), .lit (.int .i64 0)]], .agg [.lit (.int .i64 0), .lit (.int .i64 0)], .lit (.int .i64 0), .lit (.int .i64 0), .nil], .agg [.nil, .agg [.lit (.int .i64 0), .lit (.int .i64 0)], .lit (.int .i64 0), .lit (.int .i64 0), .lit (.int .i64 0), .nil], .lit (.int .i64 0), .lit (.int .i64 0), .lit (.int .i64 0), .nil]], [], places) :=
 ⟨[], by kernel_rfl⟩
set_option maxRecDepth 100000 in
theorem lifted (os : Os) (started : os.Started) (H : Type) (enc : TypeId × Value → H) (F : Stop.Interp) :
  ReturnsInHanded {} Tryd.checked os 6 .any ((OpenSpec.ofChange Rows.crossingPlanSpec).preRow enc Tryd.prog Tryd.f6 Rows.crossingPlanRow.domain false Rows.crossingPlanRow.laid) (((OpenSpec.ofChange Rows.crossingPlanSpec).at F).post enc Tryd.prog Tryd.f6 false true false false) := by
 obtain ⟨places, hx⟩ := reads os enc
 refine returnsInHanded_of_row (C := Tryd.checked) (s := OpenSpec.ofChange Rows.crossingPlanSpec) own started (by kernel_rfl) Tryd.func6
  (witness_row_atRef (enc := enc) (C := Tryd.checked) false (World.doorLaid Tryd.prog 60 os) #[.agg #[.slice none 0 0, .int .i64 0, .int .i64 0, .int .i64 0, .int .i64 0, .int .i64 0, .int .i64 0, .int .i64 0, .int .i64 0, .int .i64 0, .int .i64 0, .int .i64 0, .int .i64 0, .slice none 0 0, .slice none 0 0, .int .i64 0, .int .i64 0, .int .i64 0, .int .i64 0, .int .i64 0, .slice none 0 0, .int .i64 0, .int .i64 0, .int .i64 0, .slice none 0 0]] rfl (by kernel_rfl) (by kernel_rfl) (by kernel_rfl)
   (OpenSpec.preRow_of_cond 8 hx (by kernel_rfl) (fun k hk => by cases hk) (by kernel_rfl) (door_met_crossingPlan os _))) ?_
 intro W base args ds gs before hval hW _ hcond hsz hL hS _
 exact contract H enc W base args ds gs before hval hW hsz hL hS
theorem said : Rows.CrossingPlanSaid :=
 OpenClaim.holds_of_cond 6 Tryd.f6 rfl rfl rfl rfl rfl rfl rfl ⟨rfl, rfl, rfl, rfl, rfl⟩ rfl rfl rfl rfl rfl (by kernel_rfl) Tryd.func6 (by kernel_rfl)
  (of_decide_eq_true (by kernel_rfl)) (by unfold Func.isWrapper; first | (rw [if_pos (by decide +kernel)]; kernel_rfl) | (rw [if_neg (by decide +kernel)]; exact ⟨rfl, rfl⟩))
  (fun os started H enc _ F => by rw [OpenClaim.pre_eq_preRow]; exact lifted os started H enc F)
theorem plain (f : FuncId) (fn : Func) (hf : Tryd.pinned.checked.prog.funcNamed "prow/prowlaw09.CrossingPlan" = some f) (hfn : Tryd.pinned.checked.prog.funcs[f]? = some fn) :
  false = Tryd.pinned.checked.prog.looks [] ∧ ∀ (j : Nat) t, fn.params[j]? = some t → Tryd.pinned.checked.prog.wantsStandIn t = false := by
 obtain rfl : f = 6 := Option.some.inj ((show Tryd.prog.funcNamed "prow/prowlaw09.CrossingPlan" = some 6 by kernel_rfl).symm.trans hf) |>.symm
 obtain rfl : fn = Tryd.f6 := (Option.some.inj (Tryd.func6.symm.trans hfn)).symm
 refine ⟨by kernel_rfl, fun j t ht => ?_⟩
 rw [Tryd.params6] at ht
 have hm : t ∈ ([37] : List TypeId) := by simpa using Array.mem_of_getElem? ht
 have hall : (([37] : List TypeId).all fun u => !Tryd.prog.wantsStandIn u) = true := by kernel_rfl
 exact (show Tryd.prog.wantsStandIn t = false by simpa using List.all_eq_true.1 hall t hm)
theorem card : Rows.CrossingPlanCardSaid :=
 Claim7.holds_tied_plain_at .later [] _ _ _ _ said (fun _ h => by cases h) (by kernel_rfl) (fun _ h => by cases h) crossingPlan_row_tie rfl ⟨rfl, rfl⟩ (by kernel_rfl) rfl plain (by kernel_rfl)
end CrossingPlan
end Go.Proofs.YtpfglknbkpcfnaaDoor.X
theorem Go.Proofs.YtpfglknbkpcfnaaDoor.crossingPlan_holds : Go.Proofs.YtpfglknbkpcfnaaDoor.Rows.CrossingPlanCardSaid := Go.Proofs.YtpfglknbkpcfnaaDoor.X.CrossingPlan.card
