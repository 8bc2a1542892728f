/- Parts of the proof of CrossingNext: the engine, contracts of functions, plain lemmas. -/
import Derived.Test.YtpfglknbkpcfnaaDoorCrossingNextA3
import Derived.ArgAppend
import Derived.Below
import Derived.Carry
import Derived.ChangeKeysEq
import Derived.ControlIn
import Derived.Deep.DeepHandedRow
import Derived.Deep.DeepWitnessRowRef
import Derived.Deep.Draws
import Derived.Deep.Quiet
import Derived.Deep.Slices
import Derived.KernelRfl
import Derived.LaidMore
import Derived.Laws.AppendOwn
import Derived.Laws.Cells
import Derived.Laws.CopyRow
import Derived.Laws.IdiomCopy
import Derived.Laws.IdiomRangeMap
import Derived.Laws.OwnMore
import Derived.Laws.Rows
import Derived.MapKept
import Derived.Maps.AppendAt
import Derived.OpenShut
import Derived.OrdersHeld
import Derived.OrdersIn
import Derived.ProofKit
import Derived.RangeFuncLeaves
import Derived.RangeFuncNested
import Derived.RangeFuncOwn
import Derived.SevenTiedAt
import Derived.SizedLaws
import Derived.Stop.Joined
import Derived.Test.YtpfglknbkpcfnaaDoorCards
import Derived.Test.YtpfglknbkpcfnaaDoorProg
import Derived.Test.YtpfglknbkpcfnaaDoorRows
import Derived.Test.YtpfglknbkpcfnaaDoorTie
import Derived.WalkKit
import Derived.WideKeyRuns
set_option linter.all false
namespace Go.Proofs.YtpfglknbkpcfnaaDoor.X
open Go Go.RowKit Go.Proofs.YtpfglknbkpcfnaaDoor.Eng Go.Proofs.YtpfglknbkpcfnaaDoor.Fw
abbrev hpD (b : XBook) (gm : Nat) (ds : List Int) (wt : Int) : List (Nat × HE) := ((16, .sl .own 3 1 ds encI 0) :: (15, .clo 87 [] [.s (.p 12 0), .s (.p 11 0), .s (.p 13 0), .s (.p 14 0)]) :: (14, .box 139 [.ref 15]) :: (13, .box 3 [.int .i64 wt]) :: (12, .box 51 [.ref 16]) :: (11, .box 78 (xR b gm)) :: (roX b ((5, mapF gm (fkL b.fw) fkKey fkVal) :: hp5)))
def DepC (b : XBook) (gm : Nat) (R : Nat → Prop) (F : Int × Int → List Int → Int → List Int × Int) : Prop := ∀ (cx : Cx) (n : Vn) (w : World) (nt : Nat) (env : List (Nat × List (Nat × Bool) × AV)) (p : Int × Int) (ds : List Int) (wt : Int), R ds.length → cx.m0 ≤ 16 →
  HSat cx n ⟨nt, env, hpD b gm ds wt, 17, []⟩ w → Calls Tryd.prog 87 (([.g [.int .i64 p.1, .int .i64 p.2], .s (.p 12 0), .s (.p 11 0), .s (.p 13 0), .s (.p 14 0)] : List AV).map (AV.c n)).toArray w fun e w' => (∃ v, e = .returned v) ∧ ∃ n' : Vn, (∀ id, id < 16 → n' id = n id) ∧ HSat cx n' ⟨0, [], hpD b gm (F p ds wt).1 (F p ds wt).2, 17, []⟩ w'
def departS (b : XBook) (F : Int × Int → List Int → Int → List Int × Int) (p : Int × Int) (ds : List Int) (wt : Int) : List Int × Int :=
 (bif (ds.length : Int) == (b.trips.length : Int) then (ds, wt) else (bif !(firstU b (⟨p.1, mx p.2 (b.trips.getD (ds.length : Int).toNat zTrip).ready⟩ : (Int × Int)) (b.trips.getD (ds.length : Int).toNat zTrip).load).2 then (ds, wt) else F (⟨(arrivesX b (⟨p.1, (firstU b (⟨p.1, mx p.2 (b.trips.getD (ds.length : Int).toNat zTrip).ready⟩ : (Int × Int)) (b.trips.getD (ds.length : Int).toNat zTrip).load).1⟩ : (Int × Int))).1, IntKind.i64.wrap ((arrivesX b (⟨p.1, (firstU b (⟨p.1, mx p.2 (b.trips.getD (ds.length : Int).toNat zTrip).ready⟩ : (Int × Int)) (b.trips.getD (ds.length : Int).toNat zTrip).load).1⟩ : (Int × Int))).2 + b.turn)⟩ : (Int × Int)) (ds ++ ([(firstU b (⟨p.1, mx p.2 (b.trips.getD (ds.length : Int).toNat zTrip).ready⟩ : (Int × Int)) (b.trips.getD (ds.length : Int).toNat zTrip).load).1])) (IntKind.i64.wrap ((IntKind.i64.wrap (wt + (firstU b (⟨p.1, mx p.2 (b.trips.getD (ds.length : Int).toNat zTrip).ready⟩ : (Int × Int)) (b.trips.getD (ds.length : Int).toNat zTrip).load).1)) - (mx p.2 (b.trips.getD (ds.length : Int).toNat zTrip).ready)))))
theorem departS_ok (b : XBook) (gm : Nat) (R : Nat → Prop) (F : Int × Int → List Int → Int → List Int × Int) (he : 1 ≤ b.each) (hnt : b.trips.length ≤ 4) (hF : DepC b gm R F) (m : Nat) (hR : m < b.trips.length → R (m + 1)) : DepC b gm (fun k => k = m ∧ k ≤ b.trips.length) (departS b F) := by
 intro cx n w nt env p ds wt hds hm h0
 obtain ⟨rfl, hdl⟩ := hds
 refine calls_of_WP (cx := ⟨cx.w0, cx.ok, n, 16, true⟩) (n := n) (vs := [.g [.int .i64 p.1, .int .i64 p.2], .s (.p 12 0), .s (.p 11 0), .s (.p 13 0), .s (.p 14 0)]) (hp := hpD b gm ds wt) (nx := 17) tt_ok Tryd.func87 rfl rfl rfl (by kernel_rfl) ((h0.slots).low (Nat.le_of_ble_eq_true rfl)) (vsOk (by kernel_rfl)) ?_
 refine WSA tt_ok ?_
 refine WSA tt_ok ?_
 refine WP_seq (WSA tt_ok ?_)
 refine WP_cond ((ds.length : Int) == (b.trips.length : Int)) (by kernel_rfl) (fun hc2 => ?_) (fun hc2 => ?_)
 ·have hc2' := hc2; try simp only [bfs, ne_eq] at hc2'
  refine WP_ret ?_
  exact ⟨.t [], by kernel_rfl, fun n1 w' h => ⟨⟨_, rfl⟩, fun id => n1 (rnm [] id), fun id hid => (congrArg n1 (rnm_id (m := 16) (by kernel_rfl) id hid)).trans (h.ini id hid), (by have h2 : HSat _ _ ⟨0, [], hpD b gm ds wt, 17, []⟩ w' := (HSat.ren h [] (by repeat (first | exact trivial | refine ⟨by kernel_rfl, ?_⟩)) (by kernel_rfl) (by kernel_rfl) (rnm_id (by kernel_rfl)) (Nat.le_of_ble_eq_true rfl)); have e9 : departS b F p ds wt = (ds, wt) := (by unfold departS; simp only [hc2, cond_true, cond_false]); rw [e9]; exact h2.back h0.ini hm)⟩⟩
 have hc2' := hc2; try simp only [bfs, ne_eq] at hc2'
 refine WP_skip ?_
 have hlt : ds.length < b.trips.length := by omega
 refine WSR tt_ok 4 ?_
 refine IX tt_ok (ds.length : Int) b.trips.length [] (by kernel_rfl) (fun hG => ⟨by omega, by omega⟩) ?_
 refine WPA tt_ok ?_
 refine WSA tt_ok ?_
 refine WP_seq (WP_draw (by kernel_rfl) (by kernel_rfl) ?_)
 refine WPQ_run tt_ok 4 (by kernel_rfl) ?_
 refine QCALL 56 [] (.g [.v (.func (.func 85) #[] #[])]) [] (by kernel_rfl) (goes_of (by kernel_rfl)) (by kernel_rfl) (by kernel_rfl) (fun _ nV w h => wayU_calls w) ?_
 refine QCALL 84 [.g (xR b gm), .g [.int .i64 p.1, .int .i64 (mx p.2 (b.trips.getD (ds.length : Int).toNat zTrip).ready)], .s (.int .i64 (b.trips.getD (ds.length : Int).toNat zTrip).load), .g [.v (.func (.func 85) #[] #[])]] (.t [(false, [.int .i64 (firstU b (⟨p.1, mx p.2 (b.trips.getD (ds.length : Int).toNat zTrip).ready⟩ : (Int × Int)) (b.trips.getD (ds.length : Int).toNat zTrip).load).1]), (false, [.bool (firstU b (⟨p.1, mx p.2 (b.trips.getD (ds.length : Int).toNat zTrip).ready⟩ : (Int × Int)) (b.trips.getD (ds.length : Int).toNat zTrip).load).2])]) [] (by kernel_rfl) (goes_of (by kernel_rfl)) (by kernel_rfl) (by kernel_rfl) (fun _ nV w h => firstU_calls (nV 0) (nV 1) (nV 2) (nV 3) (nV 4) gm b (⟨p.1, mx p.2 (b.trips.getD (ds.length : Int).toNat zTrip).ready⟩ : (Int × Int)) (b.trips.getD (ds.length : Int).toNat zTrip).load w (h.rd 0 24) (h.rd 1 112) (h.rd 2 103) (h.rd 3 105) (h.rd 4 60) (h.ents (5, mapF gm (fkL b.fw) fkKey fkVal) (fnd_mem (by kernel_rfl))).1 (h.ft 6 4) (h.ft 7 3) (h.ft 8 1) (h.ft 9 0) (h.ft 10 2) (by first | assumption | omega)) ?_
 refine WPQ_all tt_ok (by kernel_rfl) ?_
 refine WP_seq (WSA tt_ok ?_)
 refine WP_cond (!(firstU b (⟨p.1, mx p.2 (b.trips.getD (ds.length : Int).toNat zTrip).ready⟩ : (Int × Int)) (b.trips.getD (ds.length : Int).toNat zTrip).load).2) (by kernel_rfl) (fun hc4 => ?_) (fun hc4 => ?_)
 ·have hc4' := hc4; try simp only [bfs, ne_eq] at hc4'
  refine WP_ret ?_
  exact ⟨.t [], by kernel_rfl, fun n1 w' h => ⟨⟨_, rfl⟩, fun id => n1 (rnm [] id), fun id hid => (congrArg n1 (rnm_id (m := 16) (by kernel_rfl) id hid)).trans (h.ini id hid), (by have h2 : HSat _ _ ⟨0, [], hpD b gm ds wt, 17, []⟩ w' := (HSat.ren h [] (by repeat (first | exact trivial | refine ⟨by kernel_rfl, ?_⟩)) (by kernel_rfl) (by kernel_rfl) (rnm_id (by kernel_rfl)) (Nat.le_of_ble_eq_true rfl)); have e9 : departS b F p ds wt = (ds, wt) := (by unfold departS; simp only [hc2, hc4, cond_true, cond_false]); rw [e9]; exact h2.back h0.ini hm)⟩⟩
 have hc4' := hc4; try simp only [bfs, ne_eq] at hc4'
 refine WP_skip ?_
 refine WP_seq (WP_toX (σ := Unit) (fun _ => ⟨68, [(8, [], .s (.int .i64 (firstU b (⟨p.1, mx p.2 (b.trips.getD (ds.length : Int).toNat zTrip).ready⟩ : (Int × Int)) (b.trips.getD (ds.length : Int).toNat zTrip).load).1)), (5, [], .s (.p 17 0)), (2, [], .s (.p 11 0)), (4, [], .s (.p 14 0))], ((20, .sl .own 3 1 (ds ++ ([(firstU b (⟨p.1, mx p.2 (b.trips.getD (ds.length : Int).toNat zTrip).ready⟩ : (Int × Int)) (b.trips.getD (ds.length : Int).toNat zTrip).load).1])) encI 0) :: (18, .box 60 [.int .i64 (b.trips.getD (ds.length : Int).toNat zTrip).load, .int .i64 (b.trips.getD (ds.length : Int).toNat zTrip).ready]) :: (17, .box 86 [.int .i64 p.1, .int .i64 (mx p.2 (b.trips.getD (ds.length : Int).toNat zTrip).ready)]) :: (15, .clo 87 [] [.s (.p 12 0), .s (.p 11 0), .s (.p 13 0), .s (.p 14 0)]) :: (14, .box 139 [.ref 15]) :: (13, .box 3 [.int .i64 (IntKind.i64.wrap ((IntKind.i64.wrap (wt + (firstU b (⟨p.1, mx p.2 (b.trips.getD (ds.length : Int).toNat zTrip).ready⟩ : (Int × Int)) (b.trips.getD (ds.length : Int).toNat zTrip).load).1)) - (mx p.2 (b.trips.getD (ds.length : Int).toNat zTrip).ready)))]) :: (12, .box 51 [.ref 20]) :: (11, .box 78 (xR b gm)) :: (roX b ((5, mapF gm (fkL b.fw) fkKey fkVal) :: hp5))), 21, []⟩) ?_ ?_)
 ·refine WP_drawHM 11 [12, 16] [13] (by kernel_rfl) (by kernel_rfl) ?_
  refine H_rn tt_ok [1, 4, 5, 6, 7, 8, 9] ?_
  refine H_tw 0 2 (fun hfz cx' hx1 hx2 => ?z1) (fun hfz cx' hx1 hx2 => ?z2)
  case' z1 => refine WPA tt_ok ?_
  case' z2 => refine LIT tt_ok (by kernel_rfl) ?_
  case' z1 => refine ⟨rfl, (hfz.fs [18, 17, 15, 14, 13, 11, 0, 1, 2, 3, 4, 5, 6, 7, 8, 9, 10]), ?_⟩
  case' z2 => refine LITSL 19 3 1 1 [.int .i64 (firstU b (⟨p.1, mx p.2 (b.trips.getD (ds.length : Int).toNat zTrip).ready⟩ : (Int × Int)) (b.trips.getD (ds.length : Int).toNat zTrip).load).1] [(firstU b (⟨p.1, mx p.2 (b.trips.getD (ds.length : Int).toNat zTrip).ready⟩ : (Int × Int)) (b.trips.getD (ds.length : Int).toNat zTrip).load).1] encI 0 (by kernel_rfl) rfl (fun _ => rfl) (fun n => rfl) ?_
  case' z1 => refine H_stp 2 fun hfz cx' hx1 hx2 => ?_
  case' z2 => refine WPE (hfz.fs [18, 17, 15, 14, 13, 11, 0, 1, 2, 3, 4, 5, 6, 7, 8, 9, 10]) ?_
  case' z1 => refine LIT tt_ok (by kernel_rfl) ?_
  case' z2 => refine H_stp 0 fun hfz cx' hx1 hx2 => ?_
  case' z1 => refine LITSL 19 3 1 1 [.int .i64 (firstU b (⟨p.1, mx p.2 (b.trips.getD (ds.length : Int).toNat zTrip).ready⟩ : (Int × Int)) (b.trips.getD (ds.length : Int).toNat zTrip).load).1] [(firstU b (⟨p.1, mx p.2 (b.trips.getD (ds.length : Int).toNat zTrip).ready⟩ : (Int × Int)) (b.trips.getD (ds.length : Int).toNat zTrip).load).1] encI 0 (by kernel_rfl) rfl (fun _ => rfl) (fun n => rfl) ?_
  case' z2 => refine WPA tt_ok ?_
  case' z1 => refine WPE (hfz.fs [18, 17, 15, 14, 13, 11, 0, 1, 2, 3, 4, 5, 6, 7, 8, 9, 10]) ?_
  case' z2 => refine ⟨rfl, (hfz.fs [18, 17, 15, 14, 13, 11, 0, 1, 2, 3, 4, 5, 6, 7, 8, 9, 10]), ?_⟩
  all_goals (refine H_stp 3 fun hfz cx' hx1 hx2 => ?_; refine APP tt_ok (.s (.ref 16)) (.s (.ref 19)) 51 3 (some 45) 1 ds ([(firstU b (⟨p.1, mx p.2 (b.trips.getD (ds.length : Int).toNat zTrip).ready⟩ : (Int × Int)) (b.trips.getD (ds.length : Int).toNat zTrip).load).1]) encI 0 (by kernel_rfl) (by kernel_rfl) (by kernel_rfl) (by kernel_rfl) (.inr (.inl ⟨16, rfl, (by kernel_rfl)⟩)) (.inr ⟨19, .own, rfl, (by kernel_rfl), (by simp only [List.length_cons, List.length_nil]; omega)⟩) (by simp) (fun y => rfl) (fun y => List.all_eq_true.1 rfl) (fun i hi => (by have hby : (tyL tt 3).map (·.bytes) = some 8 := (by kernel_rfl); rw [hi] at hby; simp only [Option.map_some, Option.some.injEq] at hby; rw [hby]; simp only [List.length_append, List.length_cons, List.length_nil]; omega)) ?_; refine WPE (hfz.fs [18, 17, 15, 14, 13, 11, 0, 1, 2, 3, 4, 5, 6, 7, 8, 9, 10]) ?_; refine H_stp 10 fun hfz cx' hx1 hx2 => ?_; refine WPA tt_ok ?_; refine ⟨rfl, (hfz.fs [18, 17, 15, 14, 13, 11, 0, 1, 2, 3, 4, 5, 6, 7, 8, 9, 10]), ?_⟩; refine H_done (by kernel_rfl) ?_; refine ⟨(by kernel_rfl), ?_⟩; refine H_stp 11 fun hfz cx' hx1 hx2 => ?_; refine WPA tt_ok ?_; refine ⟨rfl, (hfz.fs [20, 19, 18, 17, 15, 14, 12, 11, 0, 1, 2, 3, 4, 5, 6, 7, 8, 9, 10]), ?_⟩; refine H_done (by kernel_rfl) ?_; exact ⟨(), Le_sel (ts := [8, 5, 2, 4]) (ids := [20, 18, 17, 15, 14, 13, 12, 11, 0, 1, 2, 3, 4, 5, 6, 7, 8, 9, 10]) (nx := 21) (by kernel_rfl)⟩)
 intro _
 refine WSR tt_ok 5 ?_
 refine CAL 88 [.g (xR b gm), .g [.int .i64 p.1, .int .i64 (firstU b (⟨p.1, mx p.2 (b.trips.getD (ds.length : Int).toNat zTrip).ready⟩ : (Int × Int)) (b.trips.getD (ds.length : Int).toNat zTrip).load).1]] (.g [.int .i64 (arrivesX b (⟨p.1, (firstU b (⟨p.1, mx p.2 (b.trips.getD (ds.length : Int).toNat zTrip).ready⟩ : (Int × Int)) (b.trips.getD (ds.length : Int).toNat zTrip).load).1⟩ : (Int × Int))).1, .int .i64 (arrivesX b (⟨p.1, (firstU b (⟨p.1, mx p.2 (b.trips.getD (ds.length : Int).toNat zTrip).ready⟩ : (Int × Int)) (b.trips.getD (ds.length : Int).toNat zTrip).load).1⟩ : (Int × Int))).2]) [] (fun hG nV w h => arrivesX_calls (nV 0) (nV 1) (nV 2) (nV 3) (nV 4) gm b (⟨p.1, (firstU b (⟨p.1, mx p.2 (b.trips.getD (ds.length : Int).toNat zTrip).ready⟩ : (Int × Int)) (b.trips.getD (ds.length : Int).toNat zTrip).load).1⟩ : (Int × Int)) w (h.rd 0 24) (h.rd 1 112) (h.rd 2 103) (h.rd 3 105) (h.rd 4 60) ) ?_
 refine WPA tt_ok ?_
 refine WSA tt_ok ?_
 refine WP_region (WPO_run tt_ok 2 (by kernel_rfl) ?_)
 refine CALLF (σ := Unit) 87 [.g [.int .i64 (arrivesX b (⟨p.1, (firstU b (⟨p.1, mx p.2 (b.trips.getD (ds.length : Int).toNat zTrip).ready⟩ : (Int × Int)) (b.trips.getD (ds.length : Int).toNat zTrip).load).1⟩ : (Int × Int))).1, .int .i64 (IntKind.i64.wrap ((arrivesX b (⟨p.1, (firstU b (⟨p.1, mx p.2 (b.trips.getD (ds.length : Int).toNat zTrip).ready⟩ : (Int × Int)) (b.trips.getD (ds.length : Int).toNat zTrip).load).1⟩ : (Int × Int))).2 + b.turn))], .s (.p 12 0), .s (.p 11 0), .s (.p 13 0), .s (.p 14 0)] 16 67 (fun _ => ⟨68, [], hpD b gm (F (⟨(arrivesX b (⟨p.1, (firstU b (⟨p.1, mx p.2 (b.trips.getD (ds.length : Int).toNat zTrip).ready⟩ : (Int × Int)) (b.trips.getD (ds.length : Int).toNat zTrip).load).1⟩ : (Int × Int))).1, IntKind.i64.wrap ((arrivesX b (⟨p.1, (firstU b (⟨p.1, mx p.2 (b.trips.getD (ds.length : Int).toNat zTrip).ready⟩ : (Int × Int)) (b.trips.getD (ds.length : Int).toNat zTrip).load).1⟩ : (Int × Int))).2 + b.turn)⟩ : (Int × Int)) (ds ++ ([(firstU b (⟨p.1, mx p.2 (b.trips.getD (ds.length : Int).toNat zTrip).ready⟩ : (Int × Int)) (b.trips.getD (ds.length : Int).toNat zTrip).load).1])) (IntKind.i64.wrap ((IntKind.i64.wrap (wt + (firstU b (⟨p.1, mx p.2 (b.trips.getD (ds.length : Int).toNat zTrip).ready⟩ : (Int × Int)) (b.trips.getD (ds.length : Int).toNat zTrip).load).1)) - (mx p.2 (b.trips.getD (ds.length : Int).toNat zTrip).ready)))).1 (F (⟨(arrivesX b (⟨p.1, (firstU b (⟨p.1, mx p.2 (b.trips.getD (ds.length : Int).toNat zTrip).ready⟩ : (Int × Int)) (b.trips.getD (ds.length : Int).toNat zTrip).load).1⟩ : (Int × Int))).1, IntKind.i64.wrap ((arrivesX b (⟨p.1, (firstU b (⟨p.1, mx p.2 (b.trips.getD (ds.length : Int).toNat zTrip).ready⟩ : (Int × Int)) (b.trips.getD (ds.length : Int).toNat zTrip).load).1⟩ : (Int × Int))).2 + b.turn)⟩ : (Int × Int)) (ds ++ ([(firstU b (⟨p.1, mx p.2 (b.trips.getD (ds.length : Int).toNat zTrip).ready⟩ : (Int × Int)) (b.trips.getD (ds.length : Int).toNat zTrip).load).1])) (IntKind.i64.wrap ((IntKind.i64.wrap (wt + (firstU b (⟨p.1, mx p.2 (b.trips.getD (ds.length : Int).toNat zTrip).ready⟩ : (Int × Int)) (b.trips.getD (ds.length : Int).toNat zTrip).load).1)) - (mx p.2 (b.trips.getD (ds.length : Int).toNat zTrip).ready)))).2, 17, []⟩) (by kernel_rfl) (goes_of (by kernel_rfl)) (fun _ => rfl) (fun _ => ⟨trivial, by kernel_rfl, by kernel_rfl, by kernel_rfl⟩) (fun n1 w1 h => (by have h2 : HSat _ _ ⟨0, [], hpD b gm (ds ++ ([(firstU b (⟨p.1, mx p.2 (b.trips.getD (ds.length : Int).toNat zTrip).ready⟩ : (Int × Int)) (b.trips.getD (ds.length : Int).toNat zTrip).load).1])) (IntKind.i64.wrap ((IntKind.i64.wrap (wt + (firstU b (⟨p.1, mx p.2 (b.trips.getD (ds.length : Int).toNat zTrip).ready⟩ : (Int × Int)) (b.trips.getD (ds.length : Int).toNat zTrip).load).1)) - (mx p.2 (b.trips.getD (ds.length : Int).toNat zTrip).ready))), 17, []⟩ w1 := (HSat.ren h [(16, 20)] (by repeat (first | exact trivial | refine ⟨by kernel_rfl, ?_⟩)) (by kernel_rfl) (by kernel_rfl) (rnm_id (by kernel_rfl)) (Nat.le_of_ble_eq_true rfl)); exact (hF _ _ _ 0 [] (⟨(arrivesX b (⟨p.1, (firstU b (⟨p.1, mx p.2 (b.trips.getD (ds.length : Int).toNat zTrip).ready⟩ : (Int × Int)) (b.trips.getD (ds.length : Int).toNat zTrip).load).1⟩ : (Int × Int))).1, IntKind.i64.wrap ((arrivesX b (⟨p.1, (firstU b (⟨p.1, mx p.2 (b.trips.getD (ds.length : Int).toNat zTrip).ready⟩ : (Int × Int)) (b.trips.getD (ds.length : Int).toNat zTrip).load).1⟩ : (Int × Int))).2 + b.turn)⟩ : (Int × Int)) (ds ++ ([(firstU b (⟨p.1, mx p.2 (b.trips.getD (ds.length : Int).toNat zTrip).ready⟩ : (Int × Int)) (b.trips.getD (ds.length : Int).toNat zTrip).load).1])) (IntKind.i64.wrap ((IntKind.i64.wrap (wt + (firstU b (⟨p.1, mx p.2 (b.trips.getD (ds.length : Int).toNat zTrip).ready⟩ : (Int × Int)) (b.trips.getD (ds.length : Int).toNat zTrip).load).1)) - (mx p.2 (b.trips.getD (ds.length : Int).toNat zTrip).ready))) (by simp only [List.length_append, List.length_cons, List.length_nil]; exact hR (by omega)) (Nat.le_of_ble_eq_true rfl) h2).mono fun e w2 ⟨hv, n2, ha, hh⟩ => ⟨(), n2, hv, fun id hid => (ha id hid).trans (congrArg n1 (rnm_id (m := 16) (by kernel_rfl) id hid)), hh.slots⟩)) (fun _ => ?_)
 refine WPO_nil ?_
 exact ⟨.t [], by kernel_rfl, fun n1 w' h => ⟨⟨_, rfl⟩, fun id => n1 (rnm [] id), fun id hid => (congrArg n1 (rnm_id (m := 16) (by kernel_rfl) id hid)).trans (h.ini id hid), (by have h2 : HSat _ _ ⟨0, [], hpD b gm (F (⟨(arrivesX b (⟨p.1, (firstU b (⟨p.1, mx p.2 (b.trips.getD (ds.length : Int).toNat zTrip).ready⟩ : (Int × Int)) (b.trips.getD (ds.length : Int).toNat zTrip).load).1⟩ : (Int × Int))).1, IntKind.i64.wrap ((arrivesX b (⟨p.1, (firstU b (⟨p.1, mx p.2 (b.trips.getD (ds.length : Int).toNat zTrip).ready⟩ : (Int × Int)) (b.trips.getD (ds.length : Int).toNat zTrip).load).1⟩ : (Int × Int))).2 + b.turn)⟩ : (Int × Int)) (ds ++ ([(firstU b (⟨p.1, mx p.2 (b.trips.getD (ds.length : Int).toNat zTrip).ready⟩ : (Int × Int)) (b.trips.getD (ds.length : Int).toNat zTrip).load).1])) (IntKind.i64.wrap ((IntKind.i64.wrap (wt + (firstU b (⟨p.1, mx p.2 (b.trips.getD (ds.length : Int).toNat zTrip).ready⟩ : (Int × Int)) (b.trips.getD (ds.length : Int).toNat zTrip).load).1)) - (mx p.2 (b.trips.getD (ds.length : Int).toNat zTrip).ready)))).1 (F (⟨(arrivesX b (⟨p.1, (firstU b (⟨p.1, mx p.2 (b.trips.getD (ds.length : Int).toNat zTrip).ready⟩ : (Int × Int)) (b.trips.getD (ds.length : Int).toNat zTrip).load).1⟩ : (Int × Int))).1, IntKind.i64.wrap ((arrivesX b (⟨p.1, (firstU b (⟨p.1, mx p.2 (b.trips.getD (ds.length : Int).toNat zTrip).ready⟩ : (Int × Int)) (b.trips.getD (ds.length : Int).toNat zTrip).load).1⟩ : (Int × Int))).2 + b.turn)⟩ : (Int × Int)) (ds ++ ([(firstU b (⟨p.1, mx p.2 (b.trips.getD (ds.length : Int).toNat zTrip).ready⟩ : (Int × Int)) (b.trips.getD (ds.length : Int).toNat zTrip).load).1])) (IntKind.i64.wrap ((IntKind.i64.wrap (wt + (firstU b (⟨p.1, mx p.2 (b.trips.getD (ds.length : Int).toNat zTrip).ready⟩ : (Int × Int)) (b.trips.getD (ds.length : Int).toNat zTrip).load).1)) - (mx p.2 (b.trips.getD (ds.length : Int).toNat zTrip).ready)))).2, 17, []⟩ w' := (HSat.ren h [] (by repeat (first | exact trivial | refine ⟨by kernel_rfl, ?_⟩)) (by kernel_rfl) (by kernel_rfl) (rnm_id (by kernel_rfl)) (Nat.le_of_ble_eq_true rfl)); have e9 : departS b F p ds wt = F (⟨(arrivesX b (⟨p.1, (firstU b (⟨p.1, mx p.2 (b.trips.getD (ds.length : Int).toNat zTrip).ready⟩ : (Int × Int)) (b.trips.getD (ds.length : Int).toNat zTrip).load).1⟩ : (Int × Int))).1, IntKind.i64.wrap ((arrivesX b (⟨p.1, (firstU b (⟨p.1, mx p.2 (b.trips.getD (ds.length : Int).toNat zTrip).ready⟩ : (Int × Int)) (b.trips.getD (ds.length : Int).toNat zTrip).load).1⟩ : (Int × Int))).2 + b.turn)⟩ : (Int × Int)) (ds ++ ([(firstU b (⟨p.1, mx p.2 (b.trips.getD (ds.length : Int).toNat zTrip).ready⟩ : (Int × Int)) (b.trips.getD (ds.length : Int).toNat zTrip).load).1])) (IntKind.i64.wrap ((IntKind.i64.wrap (wt + (firstU b (⟨p.1, mx p.2 (b.trips.getD (ds.length : Int).toNat zTrip).ready⟩ : (Int × Int)) (b.trips.getD (ds.length : Int).toNat zTrip).load).1)) - (mx p.2 (b.trips.getD (ds.length : Int).toNat zTrip).ready))) := (by unfold departS; simp only [hc2, hc4, cond_true, cond_false]); rw [e9]; exact h2.back h0.ini hm)⟩⟩
end Go.Proofs.YtpfglknbkpcfnaaDoor.X
namespace Go.Proofs.YtpfglknbkpcfnaaDoor.Eng
open Go Go.RowKit
section
variable {P : Program} {tt : TT} {cx : Cx} {s s' : AS} {Q : Exit → AS → Prop} {ops : Array Oper} {l : List Oper}
theorem WPO_fact {p : Prop} (hp : ∀ n a w, Sat cx n s a w → p) (h : p → WPO P cx ops l s Q) : WPO P cx ops l s Q := fun n a w hs => h (hp n a w hs) n a w hs
def sts1 (tt : TT) (ops : Array Oper) : List Oper → AS → Option AS
 | o :: _, s => st1 tt ops o s
 | [], _ => none
theorem WPO_one (hT : TTok P tt) (s' : AS) (h : sts1 tt ops l s = some s') (hK : WPO P cx ops l.tail s' Q) : WPO P cx ops l s Q := fun n a w hs => by
 cases l with
 | nil => cases h
 | cons o r => exact st1_sound hT hs h fun n' a' w' hs' => hK n' a' w' hs'
theorem sl_form {id : Nat} {v : Value} {sz : Nat} {α : Type} {li : List α} {enc : α → List Value} {z : α} (hf : fnd s.hp id = some (slE v sz li enc z)) : ∀ n a w, Sat cx n s a w → ∃ A c, v = .slice A li.length c := fun n a w hs => by
 obtain ⟨A, c, h, _⟩ := (hs.heap.ents _ (fnd_mem hf)).1
 exact ⟨A, c, h⟩
end
end Go.Proofs.YtpfglknbkpcfnaaDoor.Eng
namespace Go.Proofs.YtpfglknbkpcfnaaDoor.X
open Go Go.RowKit Go.Proofs.YtpfglknbkpcfnaaDoor.Eng Go.Proofs.YtpfglknbkpcfnaaDoor.Fw
def departD (b : XBook) : Nat → Int × Int → List Int → Int → List Int × Int
 | 0 => departS b fun _ ds wt => (ds, wt)
 | r + 1 => departS b (departD b r)
theorem depart_ok (b : XBook) (gm : Nat) (he : 1 ≤ b.each) (hnt : b.trips.length ≤ 4) : ∀ r : Nat, r ≤ b.trips.length → DepC b gm (fun k => k + r = b.trips.length) (departD b r) := by
 intro r
 induction r with
 | zero =>
  intro hr cx n w nt env p ds wt hk hm h0
  exact departS_ok b gm (fun _ => False) _ he hnt (fun _ _ _ _ _ _ _ _ h => h.elim) b.trips.length (fun h => absurd h (by omega)) cx n w nt env p ds wt ⟨hk, by omega⟩ hm h0
 | succ r ih =>
  intro hr cx n w nt env p ds wt hk hm h0
  exact departS_ok b gm (fun k => k + r = b.trips.length) _ he hnt (ih (by omega)) (b.trips.length - (r + 1)) (fun h => by omega) cx n w nt env p ds wt ⟨by omega, by omega⟩ hm h0
def planX (b : XBook) : (List Int) × Int :=
 ((departD b b.trips.length (⟨b.shore, 0⟩ : (Int × Int)) ([]) 0).1, (departD b b.trips.length (⟨b.shore, 0⟩ : (Int × Int)) ([]) 0).2)
theorem planX_calls (g0 g1 g2 g3 g4 : Value) (gm : Nat) (b : XBook)  (w : World) (r0 : Reads w g0 2 b.lan.tides encSpan zSpan) (r1 : Reads w g1 3 b.lan.sounds encSound zSound) (r2 : Reads w g2 5 b.fw.ships encShip zShip) (r3 : Reads w g3 4 b.fw.sights encSight zSight) (r4 : Reads w g4 2 b.trips encTrip zTrip) (hm : w.heap[gm]? = some (.map (ents (fkL b.fw) fkKey fkVal) (fkL b.fw).length)) (hun : UnknownAt w) (hnw0 : NowhereAt w) (hla : LAsksAt w) (hsd : SidesAt w) (hxn : XNowhereAt w) (he : 1 ≤ b.each) (hnt : b.trips.length ≤ 4) : Calls Tryd.prog 59 #[.agg ((lanV g0 b.lan [g1, g2, iv b.fw.hear.lo, iv b.fw.hear.hi, iv b.fw.br, iv b.fw.cr, iv b.fw.sl, g3, iv b.each, iv b.shore, iv b.turn, g4, .map (some gm)]).toArray)] w fun e w' => ∃ v0, e = .returned (.tuple #[v0, iv (planX b).2]) ∧ Below w.heap.size w w' ∧ Reads w' v0 1 (planX b).1 encI 0 ∧ (∀ g, vblk v0 = some g → w.heap.size ≤ g ∧ g < w'.heap.size) := by
 refine CW tt_ok [g0, g1, g2, g3, g4] 5 [.g (xR b gm)] (roX b ((5, mapF gm (fkL b.fw) fkKey fkVal) :: hp5)) 11 Tryd.func59 rfl rfl rfl (by simp [r0.one, r1.one, r2.one, r3.one, r4.one]) ⟨ro_in r0, ro_in r1, ro_in r2, ro_in r3, ro_in r4, ⟨⟨hm, fun w1 w2 h1 hw => (hw gm rfl).trans h1, fun g hg => by cases hg; exact (Array.getElem?_eq_some_iff.1 hm).1⟩, (Nat.le_of_ble_eq_true rfl)⟩, pf_in hun, pf_in hnw0, pf_in hla, pf_in hsd, pf_in hxn, trivial⟩ ?_
 have hl0 := Reads.len r0
 have hl1 := Reads.len r1
 have hl2 := Reads.len r2
 have hl3 := Reads.len r3
 have hl4 := Reads.len r4
 refine WSA tt_ok ?_
 refine WSA tt_ok ?_
 refine WSA tt_ok ?_
 refine WP_le (Le_nil (id := 12) (j := 0) (ty := 51) (e := 3) (cs := [.v (.slice none 0 0)]) (by kernel_rfl) (by kernel_rfl) (sz := 1) encI 0 (fun _ => rfl) (by kernel_rfl)) ?_
 refine WSR tt_ok 5 ?_
 refine CALLF (σ := Unit) 87 [.g [.int .i64 b.shore, .int .i64 0], .s (.p 12 0), .s (.p 11 0), .s (.p 13 0), .s (.p 14 0)] 16 11 (fun _ => ⟨19, [(10, [], .g [.int .i64 b.shore, .int .i64 0]), (9, [], .s (.int .i64 b.shore)), (8, [], .s (.p 11 22)), (7, [], .s (.p 11 0)), (6, [], .s (.ref 15)), (5, [], .s (.ref 15)), (4, [], .s (.p 14 0)), (3, [], .s (.p 13 0)), (2, [], .s (.p 12 0)), (1, [], .s (.p 11 0)), (0, [], .g (xR b gm))], hpD b gm (departD b b.trips.length (⟨b.shore, 0⟩ : (Int × Int)) ([]) 0).1 (departD b b.trips.length (⟨b.shore, 0⟩ : (Int × Int)) ([]) 0).2, 17, []⟩) (by kernel_rfl) (goes_of (by kernel_rfl)) (fun _ => rfl) (fun _ => ⟨⟨by kernel_rfl, by kernel_rfl, by kernel_rfl, ⟨by kernel_rfl, by kernel_rfl, by kernel_rfl, ⟨by kernel_rfl, by kernel_rfl, by kernel_rfl, ⟨by kernel_rfl, by kernel_rfl, by kernel_rfl, ⟨by kernel_rfl, by kernel_rfl, by kernel_rfl, ⟨by kernel_rfl, by kernel_rfl, by kernel_rfl, ⟨by kernel_rfl, by kernel_rfl, by kernel_rfl, ⟨by kernel_rfl, by kernel_rfl, by kernel_rfl, ⟨by kernel_rfl, by kernel_rfl, by kernel_rfl, ⟨by kernel_rfl, by kernel_rfl, by kernel_rfl, ⟨by kernel_rfl, by kernel_rfl, by kernel_rfl, trivial⟩⟩⟩⟩⟩⟩⟩⟩⟩⟩⟩, by kernel_rfl, by kernel_rfl, by kernel_rfl⟩) (fun n1 w1 h => (by have h2 : HSat _ _ ⟨0, [], hpD b gm ([]) 0, 17, []⟩ w1 := (HSat.ren h [] (by repeat (first | exact trivial | refine ⟨by kernel_rfl, ?_⟩)) (by kernel_rfl) (by kernel_rfl) (rnm_id (by kernel_rfl)) (Nat.le_of_ble_eq_true rfl)); exact (depart_ok b gm he hnt b.trips.length (Nat.le_refl _) _ _ _ 0 [] (⟨b.shore, 0⟩ : (Int × Int)) ([]) 0 (by simp) (Nat.le_of_ble_eq_true rfl) h2).mono fun e w2 ⟨hv, n2, ha, hh⟩ => ⟨(), n2, hv, fun id hid => (ha id hid).trans (congrArg n1 (rnm_id (m := 16) (by kernel_rfl) id hid)), hh.slots⟩)) (fun _ => ?_)
 refine WPO_nil ?_
 refine WP_seq (WP_toX (σ := Value) (fun sv1 => ⟨19, [(3, [], .s (.p 13 0)), (2, [], .s (.p 12 0))], ((17, slE sv1 1 (departD b b.trips.length (⟨b.shore, 0⟩ : (Int × Int)) ([]) 0).1 encI 0) :: (15, .clo 87 [] [.s (.p 12 0), .s (.p 11 0), .s (.p 13 0), .s (.p 14 0)]) :: (14, .box 139 [.ref 15]) :: (13, .box 3 [.int .i64 (departD b b.trips.length (⟨b.shore, 0⟩ : (Int × Int)) ([]) 0).2]) :: (12, .box 51 [.v sv1]) :: (11, .box 78 (xR b gm)) :: (roX b ((5, mapF gm (fkL b.fw) fkKey fkVal) :: hp5))), 18, []⟩) ?_ ?_)
 ·refine WP_drawHM 8 [12, 16] [13] (by kernel_rfl) (by kernel_rfl) ?_
  refine H_rn tt_ok [6] ?_
  refine H_th 0 1 3 (fun hfz cx' hx1 hx2 => ?z1) (fun hfz cx' hx1 hx2 => ?z2) (fun hfz cx' hx1 hx2 => ?z3)
  all_goals (refine WPA tt_ok ?_; refine ⟨rfl, (hfz.fs [15, 14, 13, 11, 0, 1, 2, 3, 4, 5, 6, 7, 8, 9, 10]), ?_⟩)
  case' z1 => refine H_tw 1 3 (fun hfz cx' hx1 hx2 => ?z4) (fun hfz cx' hx1 hx2 => ?z5)
  case' z2 => refine H_th 0 2 3 (fun hfz cx' hx1 hx2 => ?z6) (fun hfz cx' hx1 hx2 => ?z7) (fun hfz cx' hx1 hx2 => ?z8)
  case' z3 => refine H_th 0 1 4 (fun hfz cx' hx1 hx2 => ?z9) (fun hfz cx' hx1 hx2 => ?z10) (fun hfz cx' hx1 hx2 => ?z11)
  all_goals (refine WPA tt_ok ?_; refine ⟨rfl, (hfz.fs [15, 14, 13, 11, 0, 1, 2, 3, 4, 5, 6, 7, 8, 9, 10]), ?_⟩)
  case' z4 => refine H_tw 2 3 (fun hfz cx' hx1 hx2 => ?z12) (fun hfz cx' hx1 hx2 => ?z13)
  case' z5 => refine H_tw 1 4 (fun hfz cx' hx1 hx2 => ?z14) (fun hfz cx' hx1 hx2 => ?z15)
  case' z6 => refine H_tw 2 3 (fun hfz cx' hx1 hx2 => ?z16) (fun hfz cx' hx1 hx2 => ?z17)
  case' z7 => refine H_tw 0 3 (fun hfz cx' hx1 hx2 => ?z18) (fun hfz cx' hx1 hx2 => ?z19)
  case' z8 => refine H_th 0 2 4 (fun hfz cx' hx1 hx2 => ?z20) (fun hfz cx' hx1 hx2 => ?z21) (fun hfz cx' hx1 hx2 => ?z22)
  case' z9 => refine H_tw 1 4 (fun hfz cx' hx1 hx2 => ?z23) (fun hfz cx' hx1 hx2 => ?z24)
  case' z10 => refine H_th 0 2 4 (fun hfz cx' hx1 hx2 => ?z25) (fun hfz cx' hx1 hx2 => ?z26) (fun hfz cx' hx1 hx2 => ?z27)
  case' z11 => refine H_tw 0 1 (fun hfz cx' hx1 hx2 => ?z28) (fun hfz cx' hx1 hx2 => ?z29)
  all_goals (refine WPA tt_ok ?_; refine ⟨rfl, (hfz.fs [15, 14, 13, 11, 0, 1, 2, 3, 4, 5, 6, 7, 8, 9, 10]), ?_⟩)
  case' z12 | z16 | z18 => refine H_stp 3 fun hfz cx' hx1 hx2 => ?_
  case' z15 | z24 | z28 => refine H_stp 1 fun hfz cx' hx1 hx2 => ?_
  case' z13 => refine H_tw 2 4 (fun hfz cx' hx1 hx2 => ?z30) (fun hfz cx' hx1 hx2 => ?z31)
  case' z14 => refine H_tw 2 4 (fun hfz cx' hx1 hx2 => ?z32) (fun hfz cx' hx1 hx2 => ?z33)
  case' z17 => refine H_tw 2 4 (fun hfz cx' hx1 hx2 => ?z34) (fun hfz cx' hx1 hx2 => ?z35)
  case' z19 => refine H_tw 0 4 (fun hfz cx' hx1 hx2 => ?z36) (fun hfz cx' hx1 hx2 => ?z37)
  case' z20 => refine H_tw 2 4 (fun hfz cx' hx1 hx2 => ?z38) (fun hfz cx' hx1 hx2 => ?z39)
  case' z21 => refine H_tw 0 4 (fun hfz cx' hx1 hx2 => ?z40) (fun hfz cx' hx1 hx2 => ?z41)
  case' z22 => refine H_tw 0 2 (fun hfz cx' hx1 hx2 => ?z42) (fun hfz cx' hx1 hx2 => ?z43)
  case' z23 => refine H_tw 2 4 (fun hfz cx' hx1 hx2 => ?z44) (fun hfz cx' hx1 hx2 => ?z45)
  case' z25 => refine H_tw 2 4 (fun hfz cx' hx1 hx2 => ?z46) (fun hfz cx' hx1 hx2 => ?z47)
  case' z26 => refine H_tw 0 4 (fun hfz cx' hx1 hx2 => ?z48) (fun hfz cx' hx1 hx2 => ?z49)
  case' z27 => refine H_tw 0 2 (fun hfz cx' hx1 hx2 => ?z50) (fun hfz cx' hx1 hx2 => ?z51)
  case' z29 => refine H_tw 0 2 (fun hfz cx' hx1 hx2 => ?z52) (fun hfz cx' hx1 hx2 => ?z53)
  all_goals (refine WPA tt_ok ?_; refine ⟨rfl, (hfz.fs [15, 14, 13, 11, 0, 1, 2, 3, 4, 5, 6, 7, 8, 9, 10]), ?_⟩)
  case' z12 | z30 | z32 | z16 | z34 | z18 | z36 | z38 | z40 | z44 | z46 | z48 => refine H_stp 4 fun hfz cx' hx1 hx2 => ?_
  case' z31 | z33 | z15 | z35 | z39 | z42 | z45 | z24 | z47 | z50 | z28 | z52 => refine H_stp 2 fun hfz cx' hx1 hx2 => ?_
  case' z37 | z41 | z43 | z49 | z51 | z53 => refine H_stp 0 fun hfz cx' hx1 hx2 => ?_
  all_goals (refine WPA tt_ok ?_; refine ⟨rfl, (hfz.fs [15, 14, 13, 11, 0, 1, 2, 3, 4, 5, 6, 7, 8, 9, 10]), ?_⟩; refine H_stp 5 fun hfz cx' hx1 hx2 => ?_; refine SLCF tt_ok 16 3 1 (departD b b.trips.length (⟨b.shore, 0⟩ : (Int × Int)) ([]) 0).1 encI 0 (some 17) (by kernel_rfl) (by kernel_rfl) (fun _ => (by kernel_rfl)) (fun svq0 => ?_); refine WPE (hfz.fs [15, 14, 13, 11, 0, 1, 2, 3, 4, 5, 6, 7, 8, 9, 10]) ?_; refine H_stp 7 fun hfz cx' hx1 hx2 => ?_; refine WPO_fact (sl_form (id := 17) (v := svq0) (sz := 1) (li := (departD b b.trips.length (⟨b.shore, 0⟩ : (Int × Int)) ([]) 0).1) (enc := encI) (z := 0) (by kernel_rfl)) (fun hsvq1 => ?_); refine WPO_ev [18, 17, 16, 15, 14, 13, 12, 10, 9, 8, 7, 6, 5, 4, 3, 2, 1, 0] ?_; refine WPO_one tt_ok ⟨19, [(18, [], .s (.int .i64 (departD b b.trips.length (⟨b.shore, 0⟩ : (Int × Int)) ([]) 0).2)), (17, [], .s (.v svq0)), (16, [], .s (.int .i64 ((departD b b.trips.length (⟨b.shore, 0⟩ : (Int × Int)) ([]) 0).1.length : Int))), (15, [], .s (.ref 16)), (14, [], .s (.int .i64 ((departD b b.trips.length (⟨b.shore, 0⟩ : (Int × Int)) ([]) 0).1.length : Int))), (13, [], .s (.ref 16)), (12, [], .s (.ref 16)), (10, [], .g [.int .i64 b.shore, .int .i64 0]), (9, [], .s (.int .i64 b.shore)), (8, [], .s (.p 11 22)), (7, [], .s (.p 11 0)), (6, [], .s (.ref 15)), (5, [], .s (.ref 15)), (4, [], .s (.p 14 0)), (3, [], .s (.p 13 0)), (2, [], .s (.p 12 0)), (1, [], .s (.p 11 0)), (0, [], .g (xR b gm))], ((17, slE svq0 1 (departD b b.trips.length (⟨b.shore, 0⟩ : (Int × Int)) ([]) 0).1 encI 0) :: (15, .clo 87 [] [.s (.p 12 0), .s (.p 11 0), .s (.p 13 0), .s (.p 14 0)]) :: (14, .box 139 [.ref 15]) :: (13, .box 3 [.int .i64 (departD b b.trips.length (⟨b.shore, 0⟩ : (Int × Int)) ([]) 0).2]) :: (12, .box 51 [.v svq0]) :: (11, .box 78 (xR b gm)) :: (roX b ((5, mapF gm (fkL b.fw) fkKey fkVal) :: hp5))), 18, []⟩ (by obtain ⟨_, _, rfl⟩ := hsvq1; kernel_rfl) ?_; refine WPE (hfz.fs [15, 14, 13, 11, 0, 1, 2, 3, 4, 5, 6, 7, 8, 9, 10]) ?_; refine H_done (by kernel_rfl) ?_; refine ⟨(by kernel_rfl), ?_⟩; refine H_stp 8 fun hfz cx' hx1 hx2 => ?_; refine WPA tt_ok ?_; refine ⟨rfl, (hfz.fs [17, 15, 14, 12, 11, 0, 1, 2, 3, 4, 5, 6, 7, 8, 9, 10]), ?_⟩; refine H_done (by kernel_rfl) ?_; exact ⟨svq0, Le_sel (ts := [3, 2]) (ids := [17, 15, 14, 13, 12, 11, 0, 1, 2, 3, 4, 5, 6, 7, 8, 9, 10]) (nx := 18) (by kernel_rfl)⟩)
 intro sv1
 refine WP_ret ?_
 exact ⟨.t [(false, [.v sv1]), (false, [.int .i64 (departD b b.trips.length (⟨b.shore, 0⟩ : (Int × Int)) ([]) 0).2])], by kernel_rfl, fun nV w' h => ⟨sv1, by rw [show planX b = ((departD b b.trips.length (⟨b.shore, 0⟩ : (Int × Int)) ([]) 0).1, (departD b b.trips.length (⟨b.shore, 0⟩ : (Int × Int)) ([]) 0).2) from rfl]; rfl, h.bel, by rw [show planX b = ((departD b b.trips.length (⟨b.shore, 0⟩ : (Int × Int)) ([]) 0).1, (departD b b.trips.length (⟨b.shore, 0⟩ : (Int × Int)) ([]) 0).2) from rfl]; exact (slE_lt (id := 17) (v := sv1) (sz := 1) (li := (departD b b.trips.length (⟨b.shore, 0⟩ : (Int × Int)) ([]) 0).1) (enc := encI) (z := 0) h (by kernel_rfl)).1, (slE_lt (id := 17) (v := sv1) (sz := 1) (li := (departD b b.trips.length (⟨b.shore, 0⟩ : (Int × Int)) ([]) 0).1) (enc := encI) (z := 0) h (by kernel_rfl)).2⟩⟩
end Go.Proofs.YtpfglknbkpcfnaaDoor.X
namespace Go.Proofs.YtpfglknbkpcfnaaDoor.Eng
open Go Go.RowKit
section
variable {P : Program} {tt : TT} {cx : Cx} {s s' : AS} {Q : Exit → AS → Prop} {ops : Array Oper} {l : List Oper}
theorem mapSl_HSat {κ : Type} {L : List κ} {ek ex : κ → Value} {e : TypeId} {sz : Nat} {α : Type} {li : List α} {enc : α → List Value} {z : α} {n : Vn} {w w' : World} {g : Nat} {V : Value} (hh : HSat cx n s w) (henc : ∀ y, (enc y).length = sz)
  (h2 : Below w.heap.size w w') (h3 : w.heap.size ≤ g) (h4 : w'.heap[g]? = some (.map (ents L ek ex) L.length)) (h5 : Reads w' V sz li enc z) (h6 : ∀ q, vblk V = some q → w.heap.size ≤ q ∧ q < w'.heap.size ∧ q ≠ g) :
  HSat cx (upd (upd n s.nx .nilFunc) (s.nx + 1) V) ((s.add (mapE g L ek ex)).add (.sl .ro e sz li enc z)) w' := by
 have a1 := hh.add (e := mapE g L ek ex) (v := .nilFunc) h2 rfl ⟨h4, fun g' hg' => by cases hg'; exact hh.fr.news g (Nat.le_trans hh.fr.size h3), mapE_stab⟩ trivial (fun g' hg' => by cases hg'; exact (Array.getElem?_eq_some_iff.1 h4).1) (fun g' hg' => by cases hg'; exact .inl h3)
 exact a1.add (e := .sl .ro e sz li enc z) (v := V) (Below.refl _ w') h5.one ⟨henc, h5⟩ trivial (fun q hq => (h6 q hq.1).2.1) (fun q hq => .inr fun x hx hm hxq => by
  rcases List.mem_cons.1 hx with rfl | hx
  ·exact (h6 q hq.1).2.2 hxq
  rw [upd_lt n s.nx .nilFunc _ (hh.ids x hx)] at hxq
  have := hh.lt x hx q hxq
  have := (h6 q hq.1).1
  omega)
theorem CALLMR (k : FuncId) (vs : List AV) {κ : Type} (L : List κ) (ek ex : κ → Value) (e : TypeId) (sz : Nat) {α : Type} (li : List α) (enc : α → List Value) (z : α) (r : Nat → AV) (nx : Nat) (hnx : s.nx = nx)
  (h : (callA ops s l).map (fun x => (x.1, x.2.1, x.2.2.2.2)) = some (k, vs, [])) (hgo : goes P k)
  (hp : ∀ g, (callPN ops s l ((s.add (mapE g L ek ex)).add (.sl .ro e sz li enc z)) (r g)).isSome = true) (hr : ∀ g, okB ((s.add (mapE g L ek ex)).add (.sl .ro e sz li enc z)) (r g) = true) (henc : ∀ y, (enc y).length = sz)
  (hcall : ∀ n w, HSat cx n s w → Calls P k (vs.map (AV.c n)).toArray w fun e' w' => ∃ g V, e' = .returned ((r g).c (upd (upd n nx .nilFunc) (nx + 1) V)) ∧ Below w.heap.size w w' ∧ w.heap.size ≤ g ∧ w'.heap[g]? = some (.map (ents L ek ex) L.length) ∧ Reads w' V sz li enc z ∧ (∀ q, vblk V = some q → w.heap.size ≤ q ∧ q < w'.heap.size ∧ q ≠ g))
  (hK : ∀ g, WPO P cx ops l.tail ((callPN ops s l ((s.add (mapE g L ek ex)).add (.sl .ro e sz li enc z)) (r g)).getD s) Q) : WPO P cx ops l s Q := by
 subst hnx
 refine CALLX (σ := Nat) k vs (fun g => (s.add (mapE g L ek ex)).add (.sl .ro e sz li enc z)) r h hgo hp hr (fun g => (More.add s _).trans (More.add _ _)) (fun g => ⟨rfl, rfl, rfl⟩) (fun n w hh => (hcall n w hh).mono fun e' w' ⟨g, V, h1, h2, h3, h4, h5, h6⟩ => ⟨g, upd (upd n s.nx .nilFunc) (s.nx + 1) V, fun id hid => (upd_lt _ _ _ id (by omega)).trans (upd_lt _ _ _ id hid), h1, mapSl_HSat hh henc h2 h3 h4 h5 h6⟩) hK
theorem CALLMS (k : FuncId) (vs : List AV) {κ : Type} (L : List κ) (ek ex : κ → Value) (sz : Nat) {α : Type} (li : List α) (enc : α → List Value) (z : α) (r : Nat → Value → AV)
  (h : (callA ops s l).map (fun x => (x.1, x.2.1, x.2.2.2.2)) = some (k, vs, [])) (hgo : goes P k)
  (hp : ∀ g V, (callPN ops s l ((s.add (mapE g L ek ex)).add (slE V sz li enc z)) (r g V)).isSome = true) (hr : ∀ g V, okB ((s.add (mapE g L ek ex)).add (slE V sz li enc z)) (r g V) = true) (hrc : ∀ g V n n', (∀ id, id < s.nx → n' id = n id) → (r g V).c n = (r g V).c n')
  (hcall : ∀ n w, HSat cx n s w → Calls P k (vs.map (AV.c n)).toArray w fun e' w' => ∃ g V, e' = .returned ((r g V).c n) ∧ Below w.heap.size w w' ∧ w.heap.size ≤ g ∧ w'.heap[g]? = some (.map (ents L ek ex) L.length) ∧ Reads w' V sz li enc z ∧ (∀ q, vblk V = some q → w.heap.size ≤ q ∧ q < w'.heap.size ∧ q ≠ g))
  (hK : ∀ g V, WPO P cx ops l.tail ((callPN ops s l ((s.add (mapE g L ek ex)).add (slE V sz li enc z)) (r g V)).getD s) Q) : WPO P cx ops l s Q := by
 refine CALLX (σ := Nat × Value) k vs (fun x => (s.add (mapE x.1 L ek ex)).add (slE x.2 sz li enc z)) (fun x => r x.1 x.2) h hgo (fun x => hp x.1 x.2) (fun x => hr x.1 x.2) (fun x => (More.add s _).trans (More.add _ _)) (fun x => ⟨rfl, rfl, rfl⟩) (fun n w hh => (hcall n w hh).mono fun e' w' ⟨g, V, h1, h2, h3, h4, h5, h6⟩ => ⟨(g, V), upd (upd n s.nx .nilFunc) (s.nx + 1) .nilFunc, fun id hid => (upd_lt _ _ _ id (by omega)).trans (upd_lt _ _ _ id hid), h1.trans (congrArg _ (hrc g V n _ (fun id hid => (upd_lt _ _ _ id (by omega)).trans (upd_lt _ _ _ id hid)))), ?_⟩) (fun x => hK x.1 x.2)
 have a1 := hh.add (e := mapE g L ek ex) (v := .nilFunc) h2 rfl ⟨h4, fun g' hg' => by cases hg'; exact hh.fr.news g (Nat.le_trans hh.fr.size h3), mapE_stab⟩ trivial (fun g' hg' => by cases hg'; exact (Array.getElem?_eq_some_iff.1 h4).1) (fun g' hg' => by cases hg'; exact .inl h3)
 exact a1.add (e := slE V sz li enc z) (v := .nilFunc) (Below.refl _ w') rfl ⟨h5, fun g' hg' => hh.fr.news g' (Nat.le_trans hh.fr.size (h6 g' hg').1), fun w1 w2 h hw => h.stab hw⟩ trivial (fun q hq => (h6 q hq).2.1) (fun q hq => .inr fun x hx hm hxq => by
  rcases List.mem_cons.1 hx with rfl | hx
  ·exact (h6 q hq).2.2 hxq
  rw [upd_lt n s.nx .nilFunc _ (hh.ids x hx)] at hxq
  have := hh.lt x hx q hxq
  have := (h6 q hq).1
  omega)
end
end Go.Proofs.YtpfglknbkpcfnaaDoor.Eng
namespace Go.Proofs.YtpfglknbkpcfnaaDoor.X
open Go Go.RowKit Go.Proofs.YtpfglknbkpcfnaaDoor.Eng Go.Proofs.YtpfglknbkpcfnaaDoor.Fw
def plnX (b : XBook) : List Int × Int × Int := bif decide (((planX b).1.length : Int) < (b.trips.length : Int)) then ([], 0, 4) else ((planX b).1, (planX b).2, 0)
theorem plannedX_no_calls (g0 g1 g2 g3 g4 : Value) (b : XBook) (isv : Bool) (w : World) (r0 : Reads w g0 2 b.lan.tides encSpan zSpan) (r1 : Reads w g1 3 b.lan.sounds encSound zSound) (r2 : Reads w g2 5 b.fw.ships encShip zShip) (r3 : Reads w g3 4 b.fw.sights encSight zSight) (r4 : Reads w g4 2 b.trips encTrip zTrip) (ha : AsksAt w) (hun : UnknownAt w) (hnw0 : NowhereAt w) (hla : LAsksAt w) (hsd : SidesAt w) (hxn : XNowhereAt w) (hq : (errX b isv == 0) = false) : Calls Tryd.prog 58 #[.agg ((xV g0 b g1 g2 g3 g4).toArray), .bool isv] w fun e w' => e = .returned (.tuple #[.agg #[.slice none 0 0, iv 0, iv 0, iv 0, iv 0, iv 0, iv 0, iv 0, iv 0, iv 0, iv 0, iv 0, iv 0, .slice none 0 0, .slice none 0 0, iv 0, iv 0, iv 0, iv 0, iv 0, .slice none 0 0, iv 0, iv 0, iv 0, .slice none 0 0, .map none], .slice none 0 0, iv 0, iv (errX b isv)]) ∧ Below w.heap.size w w' := by
 refine CW tt_ok [g0, g1, g2, g3, g4] 5 [.g (xQ b), .s (.bool isv)] (roX b ((5, .pf AsksAt (· = 5)) :: hp5)) 11 Tryd.func58 rfl rfl rfl (by simp [r0.one, r1.one, r2.one, r3.one, r4.one]) ⟨ro_in r0, ro_in r1, ro_in r2, ro_in r3, ro_in r4, pf_in ha, pf_in hun, pf_in hnw0, pf_in hla, pf_in hsd, pf_in hxn, trivial⟩ ?_
 have hl0 := Reads.len r0
 have hl1 := Reads.len r1
 have hl2 := Reads.len r2
 have hl3 := Reads.len r3
 have hl4 := Reads.len r4
 refine WSA tt_ok ?_
 refine WSR tt_ok 2 ?_
 refine CAL 45 [.g (xQ b), .s (.bool isv)] (.t [(true, zX), (false, [.int .i64 (errX b isv)])]) [] (fun _ nV w h => askedX_no (nV 0) (nV 1) (nV 2) (nV 3) (nV 4) b isv w (h.rd 0 24) (h.rd 1 112) (h.rd 2 103) (h.rd 3 105) (h.rd 4 60) (h.ft 5 5) (h.ft 6 4) (h.ft 7 3) (h.ft 10 2) hq) ?_
 refine WPA tt_ok ?_
 refine WP_seq (WSA tt_ok ?_)
 refine WP_cond ((errX b isv) != 0) (by kernel_rfl) (fun hc1 => ?_) (fun h => by rw [(errX_ne hq)] at h; cases h)
 refine WSA tt_ok ?_
 refine WP_ret ?_
 exact ⟨.t [(true, zX), (false, [.v (.slice none 0 0)]), (false, [.int .i64 0]), (false, [.int .i64 (errX b isv)])], by kernel_rfl, fun nV w' h => ⟨rfl, h.bel⟩⟩
theorem plannedX_yes_calls (g0 g1 g2 g3 g4 : Value) (b : XBook) (isv : Bool) (w : World) (r0 : Reads w g0 2 b.lan.tides encSpan zSpan) (r1 : Reads w g1 3 b.lan.sounds encSound zSound) (r2 : Reads w g2 5 b.fw.ships encShip zShip) (r3 : Reads w g3 4 b.fw.sights encSight zSight) (r4 : Reads w g4 2 b.trips encTrip zTrip) (ha : AsksAt w) (hun : UnknownAt w) (hnw0 : NowhereAt w) (hla : LAsksAt w) (hsd : SidesAt w) (hxn : XNowhereAt w) (hq : (errX b isv == 0) = true) (he : 1 ≤ b.each) (hnt : b.trips.length ≤ 4) : Calls Tryd.prog 58 #[.agg ((xV g0 b g1 g2 g3 g4).toArray), .bool isv] w fun e w' => ∃ gm V, e = .returned (.tuple #[.agg ((lanV g0 b.lan [g1, g2, iv b.fw.hear.lo, iv b.fw.hear.hi, iv b.fw.br, iv b.fw.cr, iv b.fw.sl, g3, iv b.each, iv b.shore, iv b.turn, g4, .map (some gm)]).toArray), V, iv (plnX b).2.1, iv (plnX b).2.2]) ∧ Below w.heap.size w w' ∧ w.heap.size ≤ gm ∧ w'.heap[gm]? = some (.map (ents (fkL b.fw) fkKey fkVal) (fkL b.fw).length) ∧ Reads w' V 1 (plnX b).1 encI 0 ∧ (∀ q, vblk V = some q → w.heap.size ≤ q ∧ q < w'.heap.size ∧ q ≠ gm) := by
 refine CW tt_ok [g0, g1, g2, g3, g4] 5 [.g (xQ b), .s (.bool isv)] (roX b ((5, .pf AsksAt (· = 5)) :: hp5)) 11 Tryd.func58 rfl rfl rfl (by simp [r0.one, r1.one, r2.one, r3.one, r4.one]) ⟨ro_in r0, ro_in r1, ro_in r2, ro_in r3, ro_in r4, pf_in ha, pf_in hun, pf_in hnw0, pf_in hla, pf_in hsd, pf_in hxn, trivial⟩ ?_
 have hl0 := Reads.len r0
 have hl1 := Reads.len r1
 have hl2 := Reads.len r2
 have hl3 := Reads.len r3
 have hl4 := Reads.len r4
 refine WSA tt_ok ?_
 refine WSR tt_ok 2 ?_
 refine CALLMAP 45 [.g (xQ b), .s (.bool isv)] (fkL b.fw) fkKey fkVal (fun gM1 => .t [(true, (xR b gM1)), (false, [.int .i64 (errX b isv)])]) (by kernel_rfl) (goes_of (by kernel_rfl)) (fun _ => (by kernel_rfl)) (fun _ => (by kernel_rfl)) (fun _ n n1 h => (AV.c_congr (okB_sound (by kernel_rfl)) h).symm) (fun nV w h => askedX_yes (nV 0) (nV 1) (nV 2) (nV 3) (nV 4) b isv w (h.rd 0 24) (h.rd 1 112) (h.rd 2 103) (h.rd 3 105) (h.rd 4 60) (h.ft 5 5) (h.ft 6 4) (h.ft 7 3) (h.ft 10 2) (by simpa using hq)) (fun gM1 => ?_)
 refine WPA tt_ok ?_
 refine WP_seq (WSA tt_ok ?_)
 refine WP_cond ((errX b isv) != 0) (by kernel_rfl) (fun h => by rw [(errX_eq hq)] at h; cases h) (fun hc1 => ?_)
 refine WP_skip ?_
 refine WSR tt_ok 1 ?_
 refine CALLSL 59 [.g (xR b gM1)] (fun sv2 => .t [(false, [.v sv2]), (false, [.int .i64 (planX b ).2])]) 1 (planX b ).1 encI 0 (by decide) (by kernel_rfl) (goes_of (by kernel_rfl)) (fun _ => (by kernel_rfl)) (fun _ => (by kernel_rfl)) (fun _ _ _ => rfl) (fun nV w h => planX_calls (nV 0) (nV 1) (nV 2) (nV 3) (nV 4) gM1 b  w (h.rd 0 24) (h.rd 1 112) (h.rd 2 103) (h.rd 3 105) (h.rd 4 60) (h.ents (13, mapE gM1 (fkL b.fw) fkKey fkVal) (fnd_mem (by kernel_rfl))).1 (h.ft 6 4) (h.ft 7 3) (h.ft 8 1) (h.ft 9 0) (h.ft 10 2) (by first | assumption | omega) (by first | assumption | omega)) (fun sv2 => ?_)
 refine WPA tt_ok ?_
 refine WP_seq (WP_seq (WP_region (WPO_run tt_ok 1 (by kernel_rfl) ?_)))
 refine SLEN tt_ok (.s (.v sv2)) [] (planX b ).1.length (by kernel_rfl) (fun _ n w h => by obtain ⟨A, c, hv, _⟩ := (h.ents (14, slE sv2 1 (planX b ).1 encI 0) (fnd_mem (by kernel_rfl))).1; exact ⟨A, c, hv⟩) (by kernel_rfl) ?_
 refine WPA tt_ok ?_
 refine WP_cond (decide (((planX b ).1.length : Int) < (b.trips.length : Int))) (by kernel_rfl) (fun hc3 => ?_) (fun hc3 => ?_)
 ·have hc3' := of_decide_eq_true hc3
  refine WSA tt_ok ?_
  refine WP_ret ?_
  exact ⟨.t [(true, (xR b gM1)), (false, [.v (.slice none 0 0)]), (false, [.int .i64 0]), (false, [.int .i64 4])], by kernel_rfl, fun nV w' h => ⟨gM1, .slice none 0 0, (by have ec : plnX b = ([], 0, 4) := (by unfold plnX; rw [hc3]; rfl); have e0 : nV 0 = g0 := h.ini 0 (by show 0 < 5; decide); have e1 : nV 1 = g1 := h.ini 1 (by show 1 < 5; decide); have e2 : nV 2 = g2 := h.ini 2 (by show 2 < 5; decide); have e3 : nV 3 = g3 := h.ini 3 (by show 3 < 5; decide); have e4 : nV 4 = g4 := h.ini 4 (by show 4 < 5; decide); rw [ec, ← e0, ← e1, ← e2, ← e3, ← e4]; rfl), h.bel, (h.ents (13, mapE gM1 (fkL b.fw) fkKey fkVal) (fnd_mem (by kernel_rfl))).2.1 gM1 rfl, (h.ents (13, mapE gM1 (fkL b.fw) fkKey fkVal) (fnd_mem (by kernel_rfl))).1, (by have ec : plnX b = ([], 0, 4) := (by unfold plnX; rw [hc3]; rfl); rw [ec]; exact reads_nil), fun q hq => by cases hq⟩⟩
 have hc3' := of_decide_eq_false hc3
 refine WP_skip ?_
 refine WSA tt_ok ?_
 refine WP_ret ?_
 exact ⟨.t [(true, (xR b gM1)), (false, [.v sv2]), (false, [.int .i64 (planX b ).2]), (false, [.int .i64 0])], by kernel_rfl, fun nV w' h => ⟨gM1, sv2, (by have ec : plnX b = ((planX b).1, (planX b).2, 0) := (by unfold plnX; rw [hc3]; rfl); have e0 : nV 0 = g0 := h.ini 0 (by show 0 < 5; decide); have e1 : nV 1 = g1 := h.ini 1 (by show 1 < 5; decide); have e2 : nV 2 = g2 := h.ini 2 (by show 2 < 5; decide); have e3 : nV 3 = g3 := h.ini 3 (by show 3 < 5; decide); have e4 : nV 4 = g4 := h.ini 4 (by show 4 < 5; decide); rw [ec, ← e0, ← e1, ← e2, ← e3, ← e4]; rfl), h.bel, (h.ents (13, mapE gM1 (fkL b.fw) fkKey fkVal) (fnd_mem (by kernel_rfl))).2.1 gM1 rfl, (h.ents (13, mapE gM1 (fkL b.fw) fkKey fkVal) (fnd_mem (by kernel_rfl))).1, (by have ec : plnX b = ((planX b).1, (planX b).2, 0) := (by unfold plnX; rw [hc3]; rfl); rw [ec]; exact (slE_lt (id := 14) (v := sv2) (sz := 1) (li := (planX b ).1) (enc := encI) (z := 0) h (by kernel_rfl)).1), fun q hq => ⟨((slE_lt (id := 14) (v := sv2) (sz := 1) (li := (planX b ).1) (enc := encI) (z := 0) h (by kernel_rfl)).2 q hq).1, ((slE_lt (id := 14) (v := sv2) (sz := 1) (li := (planX b ).1) (enc := encI) (z := 0) h (by kernel_rfl)).2 q hq).2, fun hqg => HSat.apart h (i := 14) (j := 13) (e1 := slE sv2 1 (planX b ).1 encI 0) (e2 := mapE gM1 (fkL b.fw) fkKey fkVal) (by kernel_rfl) (by kernel_rfl) (by decide) (.inl rfl) q hq hqg⟩⟩⟩
def planA (b : XBook) : (List Int) × Int :=
 (bif errX b (true) == 0 then ((plnX b).1, (plnX b).2.2) else ([], errX b true))
theorem planA_calls (g0 g1 g2 g3 g4 : Value) (b : XBook) (w : World) (r0 : Reads w g0 2 b.lan.tides encSpan zSpan) (r1 : Reads w g1 3 b.lan.sounds encSound zSound) (r2 : Reads w g2 5 b.fw.ships encShip zShip) (r3 : Reads w g3 4 b.fw.sights encSight zSight) (r4 : Reads w g4 2 b.trips encTrip zTrip) (ha : AsksAt w) (hun : UnknownAt w) (hnw0 : NowhereAt w) (hla : LAsksAt w) (hsd : SidesAt w) (hxn : XNowhereAt w) : Calls Tryd.prog 23 #[.agg ((xV g0 b g1 g2 g3 g4).toArray)] w fun e w' => ∃ v0, e = .returned (.tuple #[v0, iv (planA b).2]) ∧ Below w.heap.size w w' ∧ Reads w' v0 1 (planA b).1 encI 0 ∧ (∀ g, vblk v0 = some g → w.heap.size ≤ g ∧ g < w'.heap.size) := by
 cases hq : (errX b (true) == 0)
 ·refine CW tt_ok [g0, g1, g2, g3, g4] 5 [.g (xQ b)] (roX b ((5, .pf AsksAt (· = 5)) :: hp5)) 11 Tryd.func23 rfl rfl rfl (by simp [r0.one, r1.one, r2.one, r3.one, r4.one]) ⟨ro_in r0, ro_in r1, ro_in r2, ro_in r3, ro_in r4, pf_in ha, pf_in hun, pf_in hnw0, pf_in hla, pf_in hsd, pf_in hxn, trivial⟩ ?_
  have hl0 := Reads.len r0
  have hl1 := Reads.len r1
  have hl2 := Reads.len r2
  have hl3 := Reads.len r3
  have hl4 := Reads.len r4
  refine WSA tt_ok ?_
  refine WSR tt_ok 1 ?_
  refine CAL 58 [.g (xQ b), .s (.bool true)] (.t [(true, zX), (false, [.v (.slice none 0 0)]), (false, [.int .i64 0]), (false, [.int .i64 (errX b true)])]) [] (fun _ nV w h => plannedX_no_calls (nV 0) (nV 1) (nV 2) (nV 3) (nV 4) b true w (h.rd 0 24) (h.rd 1 112) (h.rd 2 103) (h.rd 3 105) (h.rd 4 60) (h.ft 5 5) (h.ft 6 4) (h.ft 7 3) (h.ft 8 1) (h.ft 9 0) (h.ft 10 2) hq) ?_
  refine WPA tt_ok ?_
  refine WSA tt_ok ?_
  refine WP_ret ?_
  exact ⟨.t [(false, [.v (.slice none 0 0)]), (false, [.int .i64 (errX b true)])], by kernel_rfl, fun nV w' h => ⟨.slice none 0 0, by rw [show planA b = ([], errX b true) from by unfold planA; simp only [hq, cond_true, cond_false]]; rfl, h.bel, by rw [show planA b = ([], errX b true) from by unfold planA; simp only [hq, cond_true, cond_false]]; exact reads_nil, fun g hg => by cases hg⟩⟩
 have hqe : errX b (true) = 0 := by simpa using hq
 obtain ⟨hc01, hc02, hc03⟩ := errX_ok.1 hqe
 have hvX := checkX_valid.1 hc01
 have he := hvX.each.1
 have hsh := hvX.shore
 have htu := hvX.turn
 have hnt := hvX.nt
 have hcr := hvX.fw.cr
 refine CW tt_ok [g0, g1, g2, g3, g4] 5 [.g (xQ b)] (roX b ((5, .pf AsksAt (· = 5)) :: hp5)) 11 Tryd.func23 rfl rfl rfl (by simp [r0.one, r1.one, r2.one, r3.one, r4.one]) ⟨ro_in r0, ro_in r1, ro_in r2, ro_in r3, ro_in r4, pf_in ha, pf_in hun, pf_in hnw0, pf_in hla, pf_in hsd, pf_in hxn, trivial⟩ ?_
 have hl0 := Reads.len r0
 have hl1 := Reads.len r1
 have hl2 := Reads.len r2
 have hl3 := Reads.len r3
 have hl4 := Reads.len r4
 refine WSA tt_ok ?_
 refine WSR tt_ok 1 ?_
 refine CALLMS 58 [.g (xQ b), .s (.bool true)] (fkL b.fw) fkKey fkVal 1 (plnX b).1 encI 0 (fun gM1 sv1 => .t [(true, (xR b gM1)), (false, [.v sv1]), (false, [.int .i64 (plnX b).2.1]), (false, [.int .i64 (plnX b).2.2])]) (by kernel_rfl) (goes_of (by kernel_rfl)) (fun _ _ => (by kernel_rfl)) (fun _ _ => (by kernel_rfl)) (fun _ _ n n1 h => (AV.c_congr (okB_sound (by kernel_rfl)) h).symm) (fun nV w h => (plannedX_yes_calls (nV 0) (nV 1) (nV 2) (nV 3) (nV 4) b true w (h.rd 0 24) (h.rd 1 112) (h.rd 2 103) (h.rd 3 105) (h.rd 4 60) (h.ft 5 5) (h.ft 6 4) (h.ft 7 3) (h.ft 8 1) (h.ft 9 0) (h.ft 10 2) hq (by assumption) (by omega)).mono fun e w' ⟨g, V, h1, h2, h3, h4, h5, h6⟩ => ⟨g, V, h1.trans (by kernel_rfl), h2, h3, h4, h5, h6⟩) (fun gM1 sv1 => ?_)
 refine WPA tt_ok ?_
 refine WSA tt_ok ?_
 refine WP_ret ?_
 exact ⟨.t [(false, [.v sv1]), (false, [.int .i64 (plnX b).2.2])], by kernel_rfl, fun nV w' h => ⟨sv1, by rw [show planA b = ((plnX b).1, (plnX b).2.2) from by unfold planA; simp only [hq, cond_true, cond_false]]; rfl, h.bel, by rw [show planA b = ((plnX b).1, (plnX b).2.2) from by unfold planA; simp only [hq, cond_true, cond_false]]; exact (slE_lt (id := 13) (v := sv1) (sz := 1) (li := (plnX b).1) (enc := encI) (z := 0) h (by kernel_rfl)).1, (slE_lt (id := 13) (v := sv1) (sz := 1) (li := (plnX b).1) (enc := encI) (z := 0) h (by kernel_rfl)).2⟩⟩
def waitsA (b : XBook) : Int × Int :=
 (bif errX b (true) == 0 then ((plnX b).2.1, (plnX b).2.2) else (0, errX b true))
theorem waitsA_calls (g0 g1 g2 g3 g4 : Value) (b : XBook) (w : World) (r0 : Reads w g0 2 b.lan.tides encSpan zSpan) (r1 : Reads w g1 3 b.lan.sounds encSound zSound) (r2 : Reads w g2 5 b.fw.ships encShip zShip) (r3 : Reads w g3 4 b.fw.sights encSight zSight) (r4 : Reads w g4 2 b.trips encTrip zTrip) (ha : AsksAt w) (hun : UnknownAt w) (hnw0 : NowhereAt w) (hla : LAsksAt w) (hsd : SidesAt w) (hxn : XNowhereAt w) : Calls Tryd.prog 24 #[.agg ((xV g0 b g1 g2 g3 g4).toArray)] w fun e w' => e = .returned (.tuple #[iv (waitsA b).1, iv (waitsA b).2]) ∧ Below w.heap.size w w' := by
 cases hq : (errX b (true) == 0)
 ·refine CW tt_ok [g0, g1, g2, g3, g4] 5 [.g (xQ b)] (roX b ((5, .pf AsksAt (· = 5)) :: hp5)) 11 Tryd.func24 rfl rfl rfl (by simp [r0.one, r1.one, r2.one, r3.one, r4.one]) ⟨ro_in r0, ro_in r1, ro_in r2, ro_in r3, ro_in r4, pf_in ha, pf_in hun, pf_in hnw0, pf_in hla, pf_in hsd, pf_in hxn, trivial⟩ ?_
  have hl0 := Reads.len r0
  have hl1 := Reads.len r1
  have hl2 := Reads.len r2
  have hl3 := Reads.len r3
  have hl4 := Reads.len r4
  refine WSA tt_ok ?_
  refine WSR tt_ok 1 ?_
  refine CAL 58 [.g (xQ b), .s (.bool true)] (.t [(true, zX), (false, [.v (.slice none 0 0)]), (false, [.int .i64 0]), (false, [.int .i64 (errX b true)])]) [] (fun _ nV w h => plannedX_no_calls (nV 0) (nV 1) (nV 2) (nV 3) (nV 4) b true w (h.rd 0 24) (h.rd 1 112) (h.rd 2 103) (h.rd 3 105) (h.rd 4 60) (h.ft 5 5) (h.ft 6 4) (h.ft 7 3) (h.ft 8 1) (h.ft 9 0) (h.ft 10 2) hq) ?_
  refine WPA tt_ok ?_
  refine WSA tt_ok ?_
  refine WP_ret ?_
  exact ⟨.t [(false, [.int .i64 0]), (false, [.int .i64 (errX b true)])], by kernel_rfl, fun nV w' h => ⟨by rw [show waitsA b = (0, errX b true) from by unfold waitsA; simp only [hq, cond_true, cond_false]]; rfl, h.bel⟩⟩
 have hqe : errX b (true) = 0 := by simpa using hq
 obtain ⟨hc01, hc02, hc03⟩ := errX_ok.1 hqe
 have hvX := checkX_valid.1 hc01
 have he := hvX.each.1
 have hsh := hvX.shore
 have htu := hvX.turn
 have hnt := hvX.nt
 have hcr := hvX.fw.cr
 refine CW tt_ok [g0, g1, g2, g3, g4] 5 [.g (xQ b)] (roX b ((5, .pf AsksAt (· = 5)) :: hp5)) 11 Tryd.func24 rfl rfl rfl (by simp [r0.one, r1.one, r2.one, r3.one, r4.one]) ⟨ro_in r0, ro_in r1, ro_in r2, ro_in r3, ro_in r4, pf_in ha, pf_in hun, pf_in hnw0, pf_in hla, pf_in hsd, pf_in hxn, trivial⟩ ?_
 have hl0 := Reads.len r0
 have hl1 := Reads.len r1
 have hl2 := Reads.len r2
 have hl3 := Reads.len r3
 have hl4 := Reads.len r4
 refine WSA tt_ok ?_
 refine WSR tt_ok 1 ?_
 refine CALLMR 58 [.g (xQ b), .s (.bool true)] (fkL b.fw) fkKey fkVal 3 1 (plnX b).1 encI 0 (fun gM1 => .t [(true, (xR b gM1)), (false, [.ref 13]), (false, [.int .i64 (plnX b).2.1]), (false, [.int .i64 (plnX b).2.2])]) 12 (by kernel_rfl) (by kernel_rfl) (goes_of (by kernel_rfl)) (fun _ => (by kernel_rfl)) (fun _ => (by kernel_rfl)) (fun _ => rfl) (fun nV w h => (plannedX_yes_calls (nV 0) (nV 1) (nV 2) (nV 3) (nV 4) b true w (h.rd 0 24) (h.rd 1 112) (h.rd 2 103) (h.rd 3 105) (h.rd 4 60) (h.ft 5 5) (h.ft 6 4) (h.ft 7 3) (h.ft 8 1) (h.ft 9 0) (h.ft 10 2) hq (by assumption) (by omega)).mono fun e w' ⟨g, V, h1, h2, h3, h4, h5, h6⟩ => ⟨g, V, h1.trans (by kernel_rfl), h2, h3, h4, h5, h6⟩) (fun gM1 => ?_)
 refine WPA tt_ok ?_
 refine WSA tt_ok ?_
 refine WP_ret ?_
 exact ⟨.t [(false, [.int .i64 (plnX b).2.1]), (false, [.int .i64 (plnX b).2.2])], by kernel_rfl, fun nV w' h => ⟨by rw [show waitsA b = ((plnX b).2.1, (plnX b).2.2) from by unfold waitsA; simp only [hq, cond_true, cond_false]]; rfl, h.bel⟩⟩
def manyA (b : XBook) : Int × Int :=
 (bif errX b (true) == 0 then (bif (errX b true) != 0 then (((planX b ).1.length : Int), 0) else (((planX b ).1.length : Int), 0)) else (bif (errX b true) != 0 then (0, errX b true) else (0, errX b true)))
theorem manyA_calls (g0 g1 g2 g3 g4 : Value) (b : XBook) (w : World) (r0 : Reads w g0 2 b.lan.tides encSpan zSpan) (r1 : Reads w g1 3 b.lan.sounds encSound zSound) (r2 : Reads w g2 5 b.fw.ships encShip zShip) (r3 : Reads w g3 4 b.fw.sights encSight zSight) (r4 : Reads w g4 2 b.trips encTrip zTrip) (ha : AsksAt w) (hun : UnknownAt w) (hnw0 : NowhereAt w) (hla : LAsksAt w) (hsd : SidesAt w) (hxn : XNowhereAt w) : Calls Tryd.prog 25 #[.agg ((xV g0 b g1 g2 g3 g4).toArray)] w fun e w' => e = .returned (.tuple #[iv (manyA b).1, iv (manyA b).2]) ∧ Below w.heap.size w w' := by
 cases hq : (errX b (true) == 0)
 ·refine CW tt_ok [g0, g1, g2, g3, g4] 5 [.g (xQ b)] (roX b ((5, .pf AsksAt (· = 5)) :: hp5)) 11 Tryd.func25 rfl rfl rfl (by simp [r0.one, r1.one, r2.one, r3.one, r4.one]) ⟨ro_in r0, ro_in r1, ro_in r2, ro_in r3, ro_in r4, pf_in ha, pf_in hun, pf_in hnw0, pf_in hla, pf_in hsd, pf_in hxn, trivial⟩ ?_
  have hl0 := Reads.len r0
  have hl1 := Reads.len r1
  have hl2 := Reads.len r2
  have hl3 := Reads.len r3
  have hl4 := Reads.len r4
  refine WSA tt_ok ?_
  refine WSR tt_ok 1 ?_
  refine CAL 45 [.g (xQ b), .s (.bool true)] (.t [(true, zX), (false, [.int .i64 (errX b true)])]) [] (fun _ nV w h => askedX_no (nV 0) (nV 1) (nV 2) (nV 3) (nV 4) b true w (h.rd 0 24) (h.rd 1 112) (h.rd 2 103) (h.rd 3 105) (h.rd 4 60) (h.ft 5 5) (h.ft 6 4) (h.ft 7 3) (h.ft 10 2) hq) ?_
  refine WPA tt_ok ?_
  refine WP_seq (WSA tt_ok ?_)
  refine WP_cond ((errX b true) != 0) (by kernel_rfl) (fun hc1 => ?_) (fun h => by rw [(errX_ne hq)] at h; cases h)
  refine WSA tt_ok ?_
  refine WP_ret ?_
  exact ⟨.t [(false, [.int .i64 0]), (false, [.int .i64 (errX b true)])], by kernel_rfl, fun nV w' h => ⟨by rw [show manyA b = (0, errX b true) from by unfold manyA; simp only [hq, hc1, cond_true, cond_false]]; rfl, h.bel⟩⟩
 have hqe : errX b (true) = 0 := by simpa using hq
 obtain ⟨hc01, hc02, hc03⟩ := errX_ok.1 hqe
 have hvX := checkX_valid.1 hc01
 have he := hvX.each.1
 have hsh := hvX.shore
 have htu := hvX.turn
 have hnt := hvX.nt
 have hcr := hvX.fw.cr
 refine CW tt_ok [g0, g1, g2, g3, g4] 5 [.g (xQ b)] (roX b ((5, .pf AsksAt (· = 5)) :: hp5)) 11 Tryd.func25 rfl rfl rfl (by simp [r0.one, r1.one, r2.one, r3.one, r4.one]) ⟨ro_in r0, ro_in r1, ro_in r2, ro_in r3, ro_in r4, pf_in ha, pf_in hun, pf_in hnw0, pf_in hla, pf_in hsd, pf_in hxn, trivial⟩ ?_
 have hl0 := Reads.len r0
 have hl1 := Reads.len r1
 have hl2 := Reads.len r2
 have hl3 := Reads.len r3
 have hl4 := Reads.len r4
 refine WSA tt_ok ?_
 refine WSR tt_ok 1 ?_
 refine CALLMAP 45 [.g (xQ b), .s (.bool true)] (fkL b.fw) fkKey fkVal (fun gM1 => .t [(true, (xR b gM1)), (false, [.int .i64 (errX b true)])]) (by kernel_rfl) (goes_of (by kernel_rfl)) (fun _ => (by kernel_rfl)) (fun _ => (by kernel_rfl)) (fun _ n n1 h => (AV.c_congr (okB_sound (by kernel_rfl)) h).symm) (fun nV w h => askedX_yes (nV 0) (nV 1) (nV 2) (nV 3) (nV 4) b true w (h.rd 0 24) (h.rd 1 112) (h.rd 2 103) (h.rd 3 105) (h.rd 4 60) (h.ft 5 5) (h.ft 6 4) (h.ft 7 3) (h.ft 10 2) (by simpa using hq)) (fun gM1 => ?_)
 refine WPA tt_ok ?_
 refine WP_seq (WSA tt_ok ?_)
 refine WP_cond ((errX b true) != 0) (by kernel_rfl) (fun h => by rw [(errX_eq hq)] at h; cases h) (fun hc2 => ?_)
 refine WP_skip ?_
 refine WSR tt_ok 1 ?_
 refine CALLR 59 [.g (xR b gM1)] (.t [(false, [.ref 14]), (false, [.int .i64 (planX b ).2])]) 3 1 (planX b ).1 encI 0 14 (by kernel_rfl) (by kernel_rfl) (goes_of (by kernel_rfl)) (by kernel_rfl) (by kernel_rfl) (by decide) (fun _ => rfl) ((fun nV w h => (planX_calls (nV 0) (nV 1) (nV 2) (nV 3) (nV 4) gM1 b  w (h.rd 0 24) (h.rd 1 112) (h.rd 2 103) (h.rd 3 105) (h.rd 4 60) (h.ents (12, mapE gM1 (fkL b.fw) fkKey fkVal) (fnd_mem (by kernel_rfl))).1 (h.ft 6 4) (h.ft 7 3) (h.ft 8 1) (h.ft 9 0) (h.ft 10 2) (by first | assumption | omega) (by first | assumption | omega)).mono fun e w' h1 => weak_fresh h1)) ?_
 refine WPA tt_ok ?_
 refine WSA tt_ok ?_
 refine WP_ret ?_
 exact ⟨.t [(false, [.int .i64 ((planX b ).1.length : Int)]), (false, [.int .i64 0])], by kernel_rfl, fun nV w' h => ⟨by rw [show manyA b = (((planX b ).1.length : Int), 0) from by unfold manyA; simp only [hq, hc2, cond_true, cond_false]]; rfl, h.bel⟩⟩
theorem departS_len {b : XBook} {F : Int × Int → List Int → Int → List Int × Int} {p : Int × Int} {ds : List Int} {wt : Int} (h : ds.length ≤ b.trips.length) (hF : ∀ p ds wt, ds.length ≤ b.trips.length → (F p ds wt).1.length ≤ b.trips.length) : (departS b F p ds wt).1.length ≤ b.trips.length := by
 unfold departS
 cases h1 : ((ds.length : Int) == (b.trips.length : Int)) with
 | true => exact h
 | false =>
  rw [cond_false]
  have hne : (ds.length : Int) ≠ (b.trips.length : Int) := by simpa using h1
  cases h2 : !(firstU b (⟨p.1, mx p.2 (b.trips.getD (ds.length : Int).toNat zTrip).ready⟩ : (Int × Int)) (b.trips.getD (ds.length : Int).toNat zTrip).load).2 with
  | true => exact h
  | false =>
   rw [cond_false]
   refine hF _ _ _ ?_
   rw [List.length_append, List.length_singleton]
   omega
theorem departD_len (b : XBook) : ∀ (r : Nat) (p : Int × Int) (ds : List Int) (wt : Int), ds.length ≤ b.trips.length → (departD b r p ds wt).1.length ≤ b.trips.length := by
 intro r
 induction r with
 | zero => intro p ds wt h; exact departS_len h (fun _ _ _ h => h)
 | succ r ih => intro p ds wt h; exact departS_len h ih
theorem planX_len (b : XBook) : (planX b).1.length ≤ b.trips.length := departD_len b _ _ _ _ (by simp)
theorem pln_ok {b : XBook} (h : ((plnX b).2.2 != 0) = false) : plnX b = ((planX b).1, (planX b).2, 0) ∧ (planX b).1.length = b.trips.length := by
 unfold plnX at h ⊢
 have h0 := planX_len b
 cases h1 : decide (((planX b).1.length : Int) < (b.trips.length : Int)) with
 | true => rw [h1] at h; cases h
 | false =>
  have := of_decide_eq_false h1
  exact ⟨rfl, by omega⟩
theorem pln_len {b : XBook} (h : ((plnX b).2.2 != 0) = false) : (plnX b).1.length = b.trips.length := by
 obtain ⟨h1, h2⟩ := pln_ok h
 rw [h1]; exact h2
def lateA_c1 (b : XBook) (trip : Int) (k1 : Nat) : Int → Bool := fun v1_1 => decide ((k1 : Int) < (IntKind.i64.wrap ((IntKind.i64.wrap (60 - (b.trips.getD trip.toNat zTrip).ready)) + 1)))
def lateA_b1 (b : XBook) (trip : Int) (k1 : Nat) : Int → Bd Int (Int × Int) := fun v1_1 => (bif (decide (((planX (⟨b.lan, b.fw, b.each, b.shore, b.turn, b.trips.set trip.toNat (⟨(b.trips.getD trip.toNat zTrip).load, IntKind.i64.wrap ((b.trips.getD trip.toNat zTrip).ready + (k1 : Int))⟩ : Trip)⟩ : XBook) ).1.length : Int) < ((plnX b).1.length : Int))) || (decide (((planX (⟨b.lan, b.fw, b.each, b.shore, b.turn, b.trips.set trip.toNat (⟨(b.trips.getD trip.toNat zTrip).load, IntKind.i64.wrap ((b.trips.getD trip.toNat zTrip).ready + (k1 : Int))⟩ : Trip)⟩ : XBook) ).1.getD (IntKind.i64.wrap (((plnX b).1.length : Int) - 1)).toNat 0) > ((plnX b).1.getD (IntKind.i64.wrap (((plnX b).1.length : Int) - 1)).toNat 0))) then .brk v1_1 else .go (k1 : Int))
def lateA (b : XBook) (trip : Int) : Int × Int :=
 (bif errX b (withinX trip 0 (IntKind.i64.wrap ((b.trips.length : Int) - 1))) == 0 then (bif (plnX b).2.2 != 0 then (0, (plnX b).2.2) else (match loopR (lateA_c1 b trip) (lateA_b1 b trip) (61 - (b.trips.getD trip.toNat zTrip).ready).toNat 0 0 with | .brk u1_0 => (u1_0, 0) | .ret r => r)) else (bif (errX b (withinX trip 0 (IntKind.i64.wrap ((b.trips.length : Int) - 1)))) != 0 then (0, errX b (withinX trip 0 (IntKind.i64.wrap ((b.trips.length : Int) - 1)))) else (0, errX b (withinX trip 0 (IntKind.i64.wrap ((b.trips.length : Int) - 1))))))
theorem lateA_calls (g0 g1 g2 g3 g4 : Value) (b : XBook) (trip : Int) (w : World) (r0 : Reads w g0 2 b.lan.tides encSpan zSpan) (r1 : Reads w g1 3 b.lan.sounds encSound zSound) (r2 : Reads w g2 5 b.fw.ships encShip zShip) (r3 : Reads w g3 4 b.fw.sights encSight zSight) (r4 : Reads w g4 2 b.trips encTrip zTrip) (ha : AsksAt w) (hun : UnknownAt w) (hnw0 : NowhereAt w) (hla : LAsksAt w) (hsd : SidesAt w) (hxn : XNowhereAt w) : Calls Tryd.prog 31 #[.agg ((xV g0 b g1 g2 g3 g4).toArray), iv trip] w fun e w' => e = .returned (.tuple #[iv (lateA b trip).1, iv (lateA b trip).2]) ∧ Below w.heap.size w w' := by
 cases hq : (errX b (withinX trip 0 (IntKind.i64.wrap ((b.trips.length : Int) - 1))) == 0)
 ·refine CW tt_ok [g0, g1, g2, g3, g4] 5 [.g (xQ b), .s (.int .i64 trip)] (roX b ((5, .pf AsksAt (· = 5)) :: hp5)) 11 Tryd.func31 rfl rfl rfl (by simp [r0.one, r1.one, r2.one, r3.one, r4.one]) ⟨ro_in r0, ro_in r1, ro_in r2, ro_in r3, ro_in r4, pf_in ha, pf_in hun, pf_in hnw0, pf_in hla, pf_in hsd, pf_in hxn, trivial⟩ ?_
  have hl0 := Reads.len r0
  have hl1 := Reads.len r1
  have hl2 := Reads.len r2
  have hl3 := Reads.len r3
  have hl4 := Reads.len r4
  refine WSA tt_ok ?_
  refine WP_seq (WP_toX (σ := Unit) (fun _ => ⟨87, [(9, [], .s (.int .i64 (errX b (withinX trip 0 (IntKind.i64.wrap ((b.trips.length : Int) - 1)))))), (7, [], .s (.v (.slice none 0 0))), (6, [], .s (.p 12 0)), (2, [], .s (.p 11 0)), (1, [], .s (.int .i64 trip))], ((12, .box 78 zX) :: (11, .box 37 (xQ b)) :: (roX b ((5, .pf AsksAt (· = 5)) :: hp5))), 13, []⟩) ?_ ?_)
  ·refine WP_drawH [] (by kernel_rfl) (by kernel_rfl) ?_
   refine H_rn tt_ok [0, 1, 2, 3, 4, 5] ?_
   refine H_tw 6 13 (fun hfz cx' hx1 hx2 => ?z1) (fun hfz cx' hx1 hx2 => ?z2)
   case' z1 => refine CAL 60 [.s (.int .i64 trip), .s (.int .i64 0), .s (.int .i64 (IntKind.i64.wrap ((b.trips.length : Int) - 1)))] (.s (.bool (withinX trip 0 (IntKind.i64.wrap ((b.trips.length : Int) - 1))))) [] (fun hG nV w h => withinX_calls  trip 0 (IntKind.i64.wrap ((b.trips.length : Int) - 1)) w  ) ?_
   case' z2 => refine WPA tt_ok ?_
   case' z1 => refine WPE (hfz.fs [11, 0, 1, 2, 3, 4, 5, 6, 7, 8, 9, 10]) ?_
   case' z2 => refine ⟨rfl, (hfz.fs [11, 0, 1, 2, 3, 4, 5, 6, 7, 8, 9, 10]), ?_⟩
   case' z1 => refine H_tw 7 13 (fun hfz cx' hx1 hx2 => ?z3) (fun hfz cx' hx1 hx2 => ?z4)
   case' z2 => refine H_stp 6 fun hfz cx' hx1 hx2 => ?_
   case' z3 => refine CAL 58 [.g (xQ b), .s (.bool (withinX trip 0 (IntKind.i64.wrap ((b.trips.length : Int) - 1))))] (.t [(true, zX), (false, [.v (.slice none 0 0)]), (false, [.int .i64 0]), (false, [.int .i64 (errX b (withinX trip 0 (IntKind.i64.wrap ((b.trips.length : Int) - 1))))])]) [] (fun _ nV w h => plannedX_no_calls (nV 0) (nV 1) (nV 2) (nV 3) (nV 4) b (withinX trip 0 (IntKind.i64.wrap ((b.trips.length : Int) - 1))) w (h.rd 0 24) (h.rd 1 112) (h.rd 2 103) (h.rd 3 105) (h.rd 4 60) (h.ft 5 5) (h.ft 6 4) (h.ft 7 3) (h.ft 8 1) (h.ft 9 0) (h.ft 10 2) hq) ?_
   case' z4 => refine WPA tt_ok ?_
   case' z2 => refine CAL 60 [.s (.int .i64 trip), .s (.int .i64 0), .s (.int .i64 (IntKind.i64.wrap ((b.trips.length : Int) - 1)))] (.s (.bool (withinX trip 0 (IntKind.i64.wrap ((b.trips.length : Int) - 1))))) [] (fun hG nV w h => withinX_calls  trip 0 (IntKind.i64.wrap ((b.trips.length : Int) - 1)) w  ) ?_
   case' z3 | z2 => refine WPE (hfz.fs [11, 0, 1, 2, 3, 4, 5, 6, 7, 8, 9, 10]) ?_
   case' z4 => refine ⟨rfl, (hfz.fs [11, 0, 1, 2, 3, 4, 5, 6, 7, 8, 9, 10]), ?_⟩
   case' z4 | z2 => refine H_stp 7 fun hfz cx' hx1 hx2 => ?_
   case' z3 => refine H_rn tt_ok [8, 9, 10, 11, 12] ?_
   case' z4 | z2 => refine CAL 58 [.g (xQ b), .s (.bool (withinX trip 0 (IntKind.i64.wrap ((b.trips.length : Int) - 1))))] (.t [(true, zX), (false, [.v (.slice none 0 0)]), (false, [.int .i64 0]), (false, [.int .i64 (errX b (withinX trip 0 (IntKind.i64.wrap ((b.trips.length : Int) - 1))))])]) [] (fun _ nV w h => plannedX_no_calls (nV 0) (nV 1) (nV 2) (nV 3) (nV 4) b (withinX trip 0 (IntKind.i64.wrap ((b.trips.length : Int) - 1))) w (h.rd 0 24) (h.rd 1 112) (h.rd 2 103) (h.rd 3 105) (h.rd 4 60) (h.ft 5 5) (h.ft 6 4) (h.ft 7 3) (h.ft 8 1) (h.ft 9 0) (h.ft 10 2) hq) ?_
   case' z3 => refine H_stp 13 fun hfz cx' hx1 hx2 => ?_
   case' z4 | z2 => refine WPE (hfz.fs [11, 0, 1, 2, 3, 4, 5, 6, 7, 8, 9, 10]) ?_
   case' z3 => refine WPA tt_ok ?_
   case' z4 | z2 => refine H_rn tt_ok [8, 9, 10, 11, 12] ?_
   case' z3 => refine ⟨rfl, (hfz.fs [11, 0, 1, 2, 3, 4, 5, 6, 7, 8, 9, 10]), ?_⟩
   all_goals (refine H_stp 14 fun hfz cx' hx1 hx2 => ?_; refine WPA tt_ok ?_; refine ⟨rfl, (hfz.fs [11, 0, 1, 2, 3, 4, 5, 6, 7, 8, 9, 10]), ?_⟩; refine H_rn tt_ok [15, 16, 17] ?_; refine H_done (by kernel_rfl) ?_; exact ⟨(), Le_sel (ts := [9, 7, 6, 2, 1]) (ids := [12, 11, 0, 1, 2, 3, 4, 5, 6, 7, 8, 9, 10]) (nx := 13) (by kernel_rfl)⟩)
  intro _
  refine WP_seq (WSA tt_ok ?_)
  refine WP_cond ((errX b (withinX trip 0 (IntKind.i64.wrap ((b.trips.length : Int) - 1)))) != 0) (by kernel_rfl) (fun hc1 => ?_) (fun h => by rw [(errX_ne hq)] at h; cases h)
  refine WSA tt_ok ?_
  refine WP_ret ?_
  exact ⟨.t [(false, [.int .i64 0]), (false, [.int .i64 (errX b (withinX trip 0 (IntKind.i64.wrap ((b.trips.length : Int) - 1))))])], by kernel_rfl, fun nV w' h => ⟨by rw [show lateA b trip = (0, errX b (withinX trip 0 (IntKind.i64.wrap ((b.trips.length : Int) - 1)))) from by unfold lateA; simp only [hq, hc1, cond_true, cond_false]]; rfl, h.bel⟩⟩
 have hqe : errX b (withinX trip 0 (IntKind.i64.wrap ((b.trips.length : Int) - 1))) = 0 := by simpa using hq
 obtain ⟨hc01, hc02, hc03⟩ := errX_ok.1 hqe
 have hvX := checkX_valid.1 hc01
 have he := hvX.each.1
 have hsh := hvX.shore
 have htu := hvX.turn
 have hnt := hvX.nt
 have hcr := hvX.fw.cr
 have hwl : IntKind.i64.wrap ((b.trips.length : Int) - 1) = (b.trips.length : Int) - 1 := wrapI (by omega) (by omega)
 have htr : 0 ≤ trip ∧ trip < b.trips.length := by unfold withinX at hc02; rw [hwl] at hc02; simp only [Bool.and_eq_true, decide_eq_true_eq] at hc02; omega
 have hrd := (hvX.trips _ (getD_mem (z := zTrip) (show trip.toNat < b.trips.length by omega))).2
 refine CW tt_ok [g0, g1, g2, g3, g4] 5 [.g (xQ b), .s (.int .i64 trip)] (roX b ((5, .pf AsksAt (· = 5)) :: hp5)) 11 Tryd.func31 rfl rfl rfl (by simp [r0.one, r1.one, r2.one, r3.one, r4.one]) ⟨ro_in r0, ro_in r1, ro_in r2, ro_in r3, ro_in r4, pf_in ha, pf_in hun, pf_in hnw0, pf_in hla, pf_in hsd, pf_in hxn, trivial⟩ ?_
 have hl0 := Reads.len r0
 have hl1 := Reads.len r1
 have hl2 := Reads.len r2
 have hl3 := Reads.len r3
 have hl4 := Reads.len r4
 refine WSA tt_ok ?_
 refine WP_seq (WP_toX (σ := Nat) (fun gM1 => ⟨87, [(9, [], .s (.int .i64 (plnX b).2.2)), (7, [], .s (.ref 13)), (6, [], .s (.p 14 0)), (2, [], .s (.p 11 0)), (1, [], .s (.int .i64 trip))], ((14, .box 78 (xR b gM1)) :: (13, .sl .ro 3 1 (plnX b).1 encI 0) :: (12, mapE gM1 (fkL b.fw) fkKey fkVal) :: (11, .box 37 (xQ b)) :: (roX b ((5, .pf AsksAt (· = 5)) :: hp5))), 15, []⟩) ?_ ?_)
 ·refine WP_drawH [] (by kernel_rfl) (by kernel_rfl) ?_
  refine H_rn tt_ok [0, 1, 2, 3, 4, 5] ?_
  refine H_tw 6 13 (fun hfz cx' hx1 hx2 => ?z5) (fun hfz cx' hx1 hx2 => ?z6)
  case' z5 => refine CAL 60 [.s (.int .i64 trip), .s (.int .i64 0), .s (.int .i64 (IntKind.i64.wrap ((b.trips.length : Int) - 1)))] (.s (.bool (withinX trip 0 (IntKind.i64.wrap ((b.trips.length : Int) - 1))))) [] (fun hG nV w h => withinX_calls  trip 0 (IntKind.i64.wrap ((b.trips.length : Int) - 1)) w  ) ?_
  case' z6 => refine WPA tt_ok ?_
  case' z5 => refine WPE (hfz.fs [11, 0, 1, 2, 3, 4, 5, 6, 7, 8, 9, 10]) ?_
  case' z6 => refine ⟨rfl, (hfz.fs [11, 0, 1, 2, 3, 4, 5, 6, 7, 8, 9, 10]), ?_⟩
  case' z5 => refine H_tw 7 13 (fun hfz cx' hx1 hx2 => ?z7) (fun hfz cx' hx1 hx2 => ?z8)
  case' z6 => refine H_stp 6 fun hfz cx' hx1 hx2 => ?_
  case' z7 => refine CALLMR 58 [.g (xQ b), .s (.bool (withinX trip 0 (IntKind.i64.wrap ((b.trips.length : Int) - 1))))] (fkL b.fw) fkKey fkVal 3 1 (plnX b).1 encI 0 (fun gMq0 => .t [(true, (xR b gMq0)), (false, [.ref 13]), (false, [.int .i64 (plnX b).2.1]), (false, [.int .i64 (plnX b).2.2])]) 12 (by kernel_rfl) (by kernel_rfl) (goes_of (by kernel_rfl)) (fun _ => (by kernel_rfl)) (fun _ => (by kernel_rfl)) (fun _ => rfl) (fun nV w h => (plannedX_yes_calls (nV 0) (nV 1) (nV 2) (nV 3) (nV 4) b (withinX trip 0 (IntKind.i64.wrap ((b.trips.length : Int) - 1))) w (h.rd 0 24) (h.rd 1 112) (h.rd 2 103) (h.rd 3 105) (h.rd 4 60) (h.ft 5 5) (h.ft 6 4) (h.ft 7 3) (h.ft 8 1) (h.ft 9 0) (h.ft 10 2) hq (by assumption) (by omega)).mono fun e w' ⟨g, V, hq1, hq2, hq3, hq4, hq5, hq6⟩ => ⟨g, V, hq1.trans (by kernel_rfl), hq2, hq3, hq4, hq5, hq6⟩) (fun gMq0 => ?_)
  case' z8 => refine WPA tt_ok ?_
  case' z6 => refine CAL 60 [.s (.int .i64 trip), .s (.int .i64 0), .s (.int .i64 (IntKind.i64.wrap ((b.trips.length : Int) - 1)))] (.s (.bool (withinX trip 0 (IntKind.i64.wrap ((b.trips.length : Int) - 1))))) [] (fun hG nV w h => withinX_calls  trip 0 (IntKind.i64.wrap ((b.trips.length : Int) - 1)) w  ) ?_
  case' z7 | z6 => refine WPE (hfz.fs [11, 0, 1, 2, 3, 4, 5, 6, 7, 8, 9, 10]) ?_
  case' z8 => refine ⟨rfl, (hfz.fs [11, 0, 1, 2, 3, 4, 5, 6, 7, 8, 9, 10]), ?_⟩
  case' z8 | z6 => refine H_stp 7 fun hfz cx' hx1 hx2 => ?_
  case' z7 => refine H_rn tt_ok [8, 9, 10, 11, 12] ?_
  case' z8 | z6 => refine CALLMR 58 [.g (xQ b), .s (.bool (withinX trip 0 (IntKind.i64.wrap ((b.trips.length : Int) - 1))))] (fkL b.fw) fkKey fkVal 3 1 (plnX b).1 encI 0 (fun gMq0 => .t [(true, (xR b gMq0)), (false, [.ref 14]), (false, [.int .i64 (plnX b).2.1]), (false, [.int .i64 (plnX b).2.2])]) 13 (by kernel_rfl) (by kernel_rfl) (goes_of (by kernel_rfl)) (fun _ => (by kernel_rfl)) (fun _ => (by kernel_rfl)) (fun _ => rfl) (fun nV w h => (plannedX_yes_calls (nV 0) (nV 1) (nV 2) (nV 3) (nV 4) b (withinX trip 0 (IntKind.i64.wrap ((b.trips.length : Int) - 1))) w (h.rd 0 24) (h.rd 1 112) (h.rd 2 103) (h.rd 3 105) (h.rd 4 60) (h.ft 5 5) (h.ft 6 4) (h.ft 7 3) (h.ft 8 1) (h.ft 9 0) (h.ft 10 2) hq (by assumption) (by omega)).mono fun e w' ⟨g, V, hq1, hq2, hq3, hq4, hq5, hq6⟩ => ⟨g, V, hq1.trans (by kernel_rfl), hq2, hq3, hq4, hq5, hq6⟩) (fun gMq0 => ?_)
  case' z7 => refine H_stp 13 fun hfz cx' hx1 hx2 => ?_
  case' z8 | z6 => refine WPE (hfz.fs [11, 0, 1, 2, 3, 4, 5, 6, 7, 8, 9, 10]) ?_
  case' z7 => refine WPA tt_ok ?_
  case' z8 | z6 => refine H_rn tt_ok [8, 9, 10, 11, 12] ?_
  case' z7 => refine ⟨rfl, (hfz.fs [11, 0, 1, 2, 3, 4, 5, 6, 7, 8, 9, 10]), ?_⟩
  all_goals (refine H_stp 14 fun hfz cx' hx1 hx2 => ?_; refine WPA tt_ok ?_; refine ⟨rfl, (hfz.fs [11, 0, 1, 2, 3, 4, 5, 6, 7, 8, 9, 10]), ?_⟩; refine H_rn tt_ok [15, 16, 17] ?_; refine H_done (by kernel_rfl) ?_)
  case' z8 | z6 => exact ⟨gMq0, Le_ren [(14, 12), (13, 14), (12, 13)] (by repeat (first | exact trivial | refine ⟨by kernel_rfl, ?_⟩)) ⟨by kernel_rfl, rfl, by kernel_rfl, by kernel_rfl, rfl, by kernel_rfl, by kernel_rfl, rfl, by kernel_rfl, by kernel_rfl, rfl, by kernel_rfl, by kernel_rfl, rfl, by kernel_rfl, trivial⟩ (by kernel_rfl) (by kernel_rfl) (rnm_id (m := 5) (by kernel_rfl)) (by show 5 ≤ 15; decide) (by kernel_rfl) (by kernel_rfl)⟩
  exact ⟨gMq0, Le_sel (ts := [9, 7, 6, 2, 1]) (ids := [14, 13, 12, 11, 0, 1, 2, 3, 4, 5, 6, 7, 8, 9, 10]) (nx := 15) (by kernel_rfl)⟩
 intro gM1
 refine WP_seq (WSA tt_ok ?_)
 refine WP_cond ((plnX b).2.2 != 0) (by kernel_rfl) (fun hc3 => ?_) (fun hc3 => ?_)
 ·have hc3' := hc3; try simp only [bfs, ne_eq] at hc3'
  refine WSA tt_ok ?_
  refine WP_ret ?_
  exact ⟨.t [(false, [.int .i64 0]), (false, [.int .i64 (plnX b).2.2])], by kernel_rfl, fun nV w' h => ⟨by rw [show lateA b trip = (0, (plnX b).2.2) from by unfold lateA; simp only [hq, hc3, cond_true, cond_false]]; rfl, h.bel⟩⟩
 have hc3' := hc3; try simp only [bfs, ne_eq] at hc3'
 refine WP_skip ?_
 have hpl := pln_len (by assumption : ((plnX b).2.2 != 0) = false)
 refine WSA tt_ok ?_
 have hwp : IntKind.i64.wrap (((plnX b).1.length : Int) - 1) = (b.trips.length : Int) - 1 := by rw [hpl]; exact hwl
 have hwN : IntKind.i64.wrap ((IntKind.i64.wrap (60 - (b.trips.getD trip.toNat zTrip).ready)) + 1) = 61 - (b.trips.getD trip.toNat zTrip).ready := by rw [wrapI (x := 60 - (b.trips.getD trip.toNat zTrip).ready) (by omega) (by omega), wrapI (by omega) (by omega)]; omega
 refine WP_seq (WP_seq (WP_region (WPO_run tt_ok 3 (by kernel_rfl) ?_)))
 refine IX tt_ok trip b.trips.length [] (by kernel_rfl) (fun hG => ⟨by omega, by omega⟩) ?_
 refine WPA tt_ok ?_
 refine WP_loopA (ρ := Int × Int) (lateA_c1 b trip) (lateA_b1 b trip) (61 - (b.trips.getD trip.toNat zTrip).ready).toNat 0 (fun k : Nat => (k : Int)) (fun (ci : Int) (zz : Int) => ⟨87, [(43, [], .s (.int .i64 ci)), (42, [], .s (.int .i64 (IntKind.i64.wrap ((IntKind.i64.wrap (60 - (b.trips.getD trip.toNat zTrip).ready)) + 1)))), (11, [], .s (.int .i64 zz)), (10, [], .s (.int .i64 (IntKind.i64.wrap (((plnX b).1.length : Int) - 1)))), (7, [], .s (.ref 13)), (6, [], .s (.p 14 0)), (2, [], .s (.p 11 0)), (1, [], .s (.int .i64 trip))], ((14, .box 78 (xR b gM1)) :: (13, .sl .ro 3 1 (plnX b).1 encI 0) :: (12, mapE gM1 (fkL b.fw) fkKey fkVal) :: (11, .box 37 (xQ b)) :: (roX b ((5, .pf AsksAt (· = 5)) :: hp5))), 15, []⟩) (fun zz : Int => ⟨87, [(11, [], .s (.int .i64 zz))], ((14, .box 78 (xR b gM1)) :: (13, .sl .ro 3 1 (plnX b).1 encI 0) :: (12, mapE gM1 (fkL b.fw) fkKey fkVal) :: (11, .box 37 (xQ b)) :: (roX b ((5, .pf AsksAt (· = 5)) :: hp5))), 15, []⟩) (fun k zz => True) trivial ⟨0, rfl, Le_sel (ts := [43, 42, 11, 10, 7, 6, 2, 1]) (ids := [14, 13, 12, 11, 0, 1, 2, 3, 4, 5, 6, 7, 8, 9, 10]) (nx := 15) (by kernel_rfl)⟩ ?_ ?_
 ·intro k1 v1_1 hn1 hp1 hi1 Q1 hq1 ho1
  refine WSA tt_ok ?_
  refine WP_seq (WP_cond (decide ((k1 : Int) < (IntKind.i64.wrap ((IntKind.i64.wrap (60 - (b.trips.getD trip.toNat zTrip).ready)) + 1)))) (by kernel_rfl) (fun hc4 => ?_) (fun hc4 => ?_))
  rotate_left
  ·refine WP_exit ?_
   show Q1 (.exit 0) _
   exact LA_exit hq1 v1_1 (loopR_end hi1 hc4) ⟨k1, hn1, hp1⟩ (Le_sel (ts := [11]) (ids := [14, 13, 12, 11, 0, 1, 2, 3, 4, 5, 6, 7, 8, 9, 10]) (nx := 15) (by kernel_rfl))
  have hc4' := of_decide_eq_true hc4
  have hk1 : k1 < (61 - (b.trips.getD trip.toNat zTrip).ready).toNat := by rw [hwN] at hc4'; omega
  refine WP_skip ?_
  refine WP_seq (WP_block ?_)
  refine WSA tt_ok ?_
  refine WSA tt_ok ?_
  refine WSR tt_ok 2 ?_
  refine APPS tt_ok (.s (.v (.slice none 0 0))) (.s (.ref 4)) 35 60 (some 49) 2 [] b.trips encTrip zTrip (by kernel_rfl) (by kernel_rfl) (by kernel_rfl) (by kernel_rfl) (.inl ⟨rfl, rfl⟩) ⟨4, .ro, rfl, (by kernel_rfl)⟩ (fun y => rfl) (fun y => List.all_eq_true.1 rfl) (fun i hi => (by have hby : (tyL tt 60).map (·.bytes) = some 16 := (by kernel_rfl); rw [hi] at hby; simp only [Option.map_some, Option.some.injEq] at hby; rw [hby]; simp only [List.length_append, List.length_cons, List.length_nil]; omega)) ?_
  refine WPA tt_ok ?_
  refine WSR tt_ok 4 ?_
  refine IX tt_ok trip b.trips.length [] (by kernel_rfl) (fun hG => ⟨by omega, by omega⟩) ?_
  refine WPO_run tt_ok 4 (by kernel_rfl) ?_
  refine IX tt_ok trip b.trips.length [] (by kernel_rfl) (fun hG => ⟨by omega, by omega⟩) ?_
  refine WPO_run tt_ok 1 (by kernel_rfl) ?_
  refine EST tt_ok 16 trip 2 1 60 3 b.trips encTrip zTrip (⟨(b.trips.getD trip.toNat zTrip).load, IntKind.i64.wrap ((b.trips.getD trip.toNat zTrip).ready + (k1 : Int))⟩ : Trip) (.s (.int .i64 (IntKind.i64.wrap ((b.trips.getD trip.toNat zTrip).ready + (k1 : Int))))) (by kernel_rfl) (by kernel_rfl) (by kernel_rfl) (by kernel_rfl) ⟨by omega, by omega⟩ (fun n => rfl) ?_
  refine WPO_nil ?_
  refine WP_seq (WP_seq (WP_region (WPO_run tt_ok 1 (by kernel_rfl) ?_)))
  refine CALLR 59 [.g (xC (.ref 0) b (.ref 1) (.ref 2) (.ref 3) (.ref 16) (.v (.map (some gM1))))] (.t [(false, [.ref 17]), (false, [.int .i64 (planX (⟨b.lan, b.fw, b.each, b.shore, b.turn, b.trips.set trip.toNat (⟨(b.trips.getD trip.toNat zTrip).load, IntKind.i64.wrap ((b.trips.getD trip.toNat zTrip).ready + (k1 : Int))⟩ : Trip)⟩ : XBook) ).2])]) 3 1 (planX (⟨b.lan, b.fw, b.each, b.shore, b.turn, b.trips.set trip.toNat (⟨(b.trips.getD trip.toNat zTrip).load, IntKind.i64.wrap ((b.trips.getD trip.toNat zTrip).ready + (k1 : Int))⟩ : Trip)⟩ : XBook) ).1 encI 0 17 (by kernel_rfl) (by kernel_rfl) (goes_of (by kernel_rfl)) (by kernel_rfl) (by kernel_rfl) (by decide) (fun _ => rfl) ((fun nV w h => (planX_calls (nV 0) (nV 1) (nV 2) (nV 3) (nV 16) gM1 (⟨b.lan, b.fw, b.each, b.shore, b.turn, b.trips.set trip.toNat (⟨(b.trips.getD trip.toNat zTrip).load, IntKind.i64.wrap ((b.trips.getD trip.toNat zTrip).ready + (k1 : Int))⟩ : Trip)⟩ : XBook)  w (h.rd 0 24) (h.rd 1 112) (h.rd 2 103) (h.rd 3 105) (h.reads (id := 16) (kd := .own) (e := 60) (by kernel_rfl)) (h.ents (12, mapE gM1 (fkL b.fw) fkKey fkVal) (fnd_mem (by kernel_rfl))).1 (h.ft 6 4) (h.ft 7 3) (h.ft 8 1) (h.ft 9 0) (h.ft 10 2) (by first | assumption | omega | (simp only [List.length_set, List.nil_append, List.length_append, List.length_nil]; omega)) (by first | assumption | omega | (simp only [List.length_set, List.nil_append, List.length_append, List.length_nil]; omega))).mono fun e w' h1 => weak_fresh h1)) ?_
  refine WPA tt_ok ?_
  refine WP_seq (WP_draw (by kernel_rfl) (by kernel_rfl) ?_)
  refine WPQ_run tt_ok 8 (by kernel_rfl) ?_
  refine QIX tt_ok (IntKind.i64.wrap (((plnX b).1.length : Int) - 1)) (planX (⟨b.lan, b.fw, b.each, b.shore, b.turn, b.trips.set trip.toNat (⟨(b.trips.getD trip.toNat zTrip).load, IntKind.i64.wrap ((b.trips.getD trip.toNat zTrip).ready + (k1 : Int))⟩ : Trip)⟩ : XBook) ).1.length [(decide (((planX (⟨b.lan, b.fw, b.each, b.shore, b.turn, b.trips.set trip.toNat (⟨(b.trips.getD trip.toNat zTrip).load, IntKind.i64.wrap ((b.trips.getD trip.toNat zTrip).ready + (k1 : Int))⟩ : Trip)⟩ : XBook) ).1.length : Int) < ((plnX b).1.length : Int)), false)] (by kernel_rfl) (fun hG => (by (try simp only [AllEq, and_true, Bool.and_eq_true, Bool.or_eq_true, Bool.not_eq_true', decide_eq_true_eq, decide_eq_false_iff_not] at hG); rw [wrapI (by omega) (by omega)]; constructor <;> omega)) ?_
  refine WPQ_run tt_ok 3 (by kernel_rfl) ?_
  refine QIX tt_ok (IntKind.i64.wrap (((plnX b).1.length : Int) - 1)) (plnX b).1.length [(decide (((planX (⟨b.lan, b.fw, b.each, b.shore, b.turn, b.trips.set trip.toNat (⟨(b.trips.getD trip.toNat zTrip).load, IntKind.i64.wrap ((b.trips.getD trip.toNat zTrip).ready + (k1 : Int))⟩ : Trip)⟩ : XBook) ).1.length : Int) < ((plnX b).1.length : Int)), false)] (by kernel_rfl) (fun hG => (by (try simp only [AllEq, and_true, Bool.and_eq_true, Bool.or_eq_true, Bool.not_eq_true', decide_eq_true_eq, decide_eq_false_iff_not] at hG); rw [wrapI (by omega) (by omega)]; constructor <;> omega)) ?_
  refine WPQ_all tt_ok (by kernel_rfl) ?_
  refine WP_cond ((decide (((planX (⟨b.lan, b.fw, b.each, b.shore, b.turn, b.trips.set trip.toNat (⟨(b.trips.getD trip.toNat zTrip).load, IntKind.i64.wrap ((b.trips.getD trip.toNat zTrip).ready + (k1 : Int))⟩ : Trip)⟩ : XBook) ).1.length : Int) < ((plnX b).1.length : Int))) || (decide (((planX (⟨b.lan, b.fw, b.each, b.shore, b.turn, b.trips.set trip.toNat (⟨(b.trips.getD trip.toNat zTrip).load, IntKind.i64.wrap ((b.trips.getD trip.toNat zTrip).ready + (k1 : Int))⟩ : Trip)⟩ : XBook) ).1.getD (IntKind.i64.wrap (((plnX b).1.length : Int) - 1)).toNat 0) > ((plnX b).1.getD (IntKind.i64.wrap (((plnX b).1.length : Int) - 1)).toNat 0)))) (by kernel_rfl) (fun hc6 => ?_) (fun hc6 => ?_)
  ·have hc6' := hc6; try simp only [bfs, ne_eq] at hc6'
   refine WP_exit ?_
   show Q1 (.exit 0) _
   exact LA_exit hq1 v1_1 (loopR_brk hi1 hk1 hc4 (by unfold lateA_b1; simp only [hc6, cond_true, cond_false])) ⟨k1 + 1, hk1, trivial⟩ (Le_sel (ts := [11]) (ids := [14, 13, 12, 11, 0, 1, 2, 3, 4, 5, 6, 7, 8, 9, 10]) (nx := 15) (by kernel_rfl))
  have hc6' := hc6; try simp only [bfs, ne_eq] at hc6'
  refine WP_skip ?_
  refine WRA tt_ok ?_
  refine WRA tt_ok ?_
  show Q1 .normal _
  exact LA_go hq1 (ci := IntKind.i64.wrap ((k1 : Int) + 1)) (k1 : Int) hk1 (by show _ = ((k1 + 1 : Nat) : Int); rw [wrapI (by omega) (by omega)]; omega) (loopR_go hi1 hk1 hc4 (by unfold lateA_b1; simp only [hc6, cond_true, cond_false])) trivial (Le_sel (ts := [43, 42, 11, 10, 7, 6, 2, 1]) (ids := [14, 13, 12, 11, 0, 1, 2, 3, 4, 5, 6, 7, 8, 9, 10]) (nx := 15) (by kernel_rfl))
 intro u1_0 hR1 hP1 s' hl
 refine WP_le hl ?_
 clear hl s'
 refine WSA tt_ok ?_
 refine WP_ret ?_
 exact ⟨.t [(false, [.int .i64 u1_0]), (false, [.int .i64 0])], by kernel_rfl, fun nV w' h => ⟨by rw [show lateA b trip = (u1_0, 0) from by unfold lateA; simp only [hq, hc3, hR1, cond_true, cond_false]]; rfl, h.bel⟩⟩
def withoutX_c1 (b : XBook) (ship : Int) (k1 : Nat) : (List Ship) → Bool := fun v1_15 => decide ((k1 : Int) < (b.fw.ships.length : Int))
def withoutX_b1 (b : XBook) (ship : Int) (k1 : Nat) : (List Ship) → Bd (List Ship) XBook := fun v1_15 => (bif (k1 : Int) != ship then .go (v1_15 ++ ([(b.fw.ships.getD k1 zShip)])) else .go v1_15)
def withoutX_c2 (b : XBook) (ship : Int) (u1_0 : List Ship) (k2 : Nat) : (List Sight) → Bool := fun v2_21 => decide ((k2 : Int) < (b.fw.sights.length : Int))
def withoutX_b2 (b : XBook) (ship : Int) (u1_0 : List Ship) (k2 : Nat) : (List Sight) → Bd (List Sight) XBook := fun v2_21 => (bif (b.fw.sights.getD k2 zSight).ship == ship then .go v2_21 else .go (v2_21 ++ ([(⟨bif (decide ((b.fw.sights.getD k2 zSight).ship > ship)) then IntKind.i64.wrap ((b.fw.sights.getD k2 zSight).ship - 1) else (b.fw.sights.getD k2 zSight).ship, (b.fw.sights.getD k2 zSight).m, (b.fw.sights.getD k2 zSight).aw⟩ : Sight)])))
def withoutX (b : XBook) (ship : Int) : XBook :=
 (match loopR (withoutX_c1 b ship) (withoutX_b1 b ship) b.fw.ships.length 0 ([]) with | .brk u1_0 => (match loopR (withoutX_c2 b ship u1_0) (withoutX_b2 b ship u1_0) b.fw.sights.length 0 ([]) with | .brk u2_0 => (⟨b.lan, (⟨u1_0, b.fw.hear, b.fw.br, b.fw.cr, b.fw.sl, u2_0⟩ : Book), b.each, b.shore, b.turn, b.trips⟩ : XBook) | .ret r => r) | .ret r => r)
theorem withoutX_calls (g0 g1 g2 g3 g4 : Value) (b : XBook) (ship : Int) (w : World) (r0 : Reads w g0 2 b.lan.tides encSpan zSpan) (r1 : Reads w g1 3 b.lan.sounds encSound zSound) (r2 : Reads w g2 5 b.fw.ships encShip zShip) (r3 : Reads w g3 4 b.fw.sights encSight zSight) (r4 : Reads w g4 2 b.trips encTrip zTrip) (hns : b.fw.ships.length ≤ 100) (hng : b.fw.sights.length ≤ 100) : Calls Tryd.prog 62 #[.agg ((xV g0 b g1 g2 g3 g4).toArray), iv ship] w fun e w' => ∃ v0 v1, e = .returned (.agg ((xV g0 (withoutX b ship) g1 v0 v1 g4).toArray)) ∧ Below w.heap.size w w' ∧ fineRs w.heap.size w' [⟨103, 5, _, (withoutX b ship).fw.ships, encShip, zShip⟩, ⟨105, 4, _, (withoutX b ship).fw.sights, encSight, zSight⟩] [v0, v1] ∧ apartL [⟨103, 5, _, (withoutX b ship).fw.ships, encShip, zShip⟩, ⟨105, 4, _, (withoutX b ship).fw.sights, encSight, zSight⟩] [v0, v1] := by
 refine CW tt_ok [g0, g1, g2, g3, g4] 5 [.g (xQ b), .s (.int .i64 ship)] (roX b []) 5 Tryd.func62 rfl rfl rfl (by simp [r0.one, r1.one, r2.one, r3.one, r4.one]) ⟨ro_in r0, ro_in r1, ro_in r2, ro_in r3, ro_in r4, trivial⟩ ?_
 have hl0 := Reads.len r0
 have hl1 := Reads.len r1
 have hl2 := Reads.len r2
 have hl3 := Reads.len r3
 have hl4 := Reads.len r4
 refine WSA tt_ok ?_
 refine WSA tt_ok ?_
 refine WSA tt_ok ?_
 refine WP_seq (WSA tt_ok ?_)
 refine WP_loopA (ρ := XBook) (withoutX_c1 b ship) (withoutX_b1 b ship) b.fw.ships.length ([]) (fun k : Nat => (k : Int)) (fun (ci : Int) (zz : (List Ship)) => ⟨65, [(19, [], .s (.int .i64 ci)), (18, [], .s (.int .i64 (b.fw.ships.length : Int))), (17, [], .s (.ref 2)), (5, [], .s (.p 7 0)), (4, [], .s (.p 6 0)), (2, [], .s (.p 5 0)), (1, [], .s (.int .i64 ship))], ((8, .sl .own 103 5 zz encShip zShip) :: (7, .box 34 [.ref 2, .int .i64 b.fw.hear.lo, .int .i64 b.fw.hear.hi, .int .i64 b.fw.br, .int .i64 b.fw.cr, .int .i64 b.fw.sl, .ref 3]) :: (6, .box 37 [.v (.slice none 0 0), .int .i64 0, .int .i64 0, .int .i64 0, .int .i64 0, .int .i64 0, .int .i64 0, .int .i64 0, .int .i64 0, .int .i64 0, .int .i64 0, .int .i64 0, .int .i64 0, .v (.slice none 0 0), .v (.slice none 0 0), .int .i64 0, .int .i64 0, .int .i64 0, .int .i64 0, .int .i64 0, .v (.slice none 0 0), .int .i64 0, .int .i64 0, .int .i64 0, .v (.slice none 0 0)]) :: (5, .box 37 (xD (.ref 0) b (.ref 1) (.ref 8) (.v (.slice none 0 0)) (.ref 4))) :: (roX b [])), 9, []⟩) (fun zz : (List Ship) => ⟨65, [(5, [], .s (.p 7 0)), (4, [], .s (.p 6 0)), (2, [], .s (.p 5 0)), (1, [], .s (.int .i64 ship))], ((8, .sl .own 103 5 zz encShip zShip) :: (7, .box 34 [.ref 2, .int .i64 b.fw.hear.lo, .int .i64 b.fw.hear.hi, .int .i64 b.fw.br, .int .i64 b.fw.cr, .int .i64 b.fw.sl, .ref 3]) :: (6, .box 37 [.v (.slice none 0 0), .int .i64 0, .int .i64 0, .int .i64 0, .int .i64 0, .int .i64 0, .int .i64 0, .int .i64 0, .int .i64 0, .int .i64 0, .int .i64 0, .int .i64 0, .int .i64 0, .v (.slice none 0 0), .v (.slice none 0 0), .int .i64 0, .int .i64 0, .int .i64 0, .int .i64 0, .int .i64 0, .v (.slice none 0 0), .int .i64 0, .int .i64 0, .int .i64 0, .v (.slice none 0 0)]) :: (5, .box 37 (xD (.ref 0) b (.ref 1) (.ref 8) (.v (.slice none 0 0)) (.ref 4))) :: (roX b [])), 9, []⟩) (fun (k1 : Nat) (zz : (List Ship)) => zz.length ≤ k1) (by simp) ⟨0, rfl, Le.trans (Le_nil (id := 5) (j := 14) (ty := 37) (e := 103) (cs := (xD (.ref 0) b (.ref 1) (.v (.slice none 0 0)) (.v (.slice none 0 0)) (.ref 4))) (by kernel_rfl) (by kernel_rfl) (sz := 5) encShip zShip (fun _ => rfl) (by kernel_rfl)) (Le_sel (ts := [19, 18, 17, 5, 4, 2, 1]) (ids := [8, 7, 6, 5, 0, 1, 2, 3, 4]) (nx := 9) (by kernel_rfl))⟩ ?_ ?_
 ·intro k1 v1_15 hn1 hp1 hi1 Q1 hq1 ho1
  replace hp1 : v1_15.length ≤ k1 := hp1
  refine WSA tt_ok ?_
  refine WP_seq (WP_cond (decide ((k1 : Int) < (b.fw.ships.length : Int))) (by kernel_rfl) (fun hc1 => ?_) (fun hc1 => ?_))
  rotate_left
  ·refine WP_exit ?_
   show Q1 (.exit 0) _
   exact LA_exit hq1 v1_15 (loopR_end hi1 hc1) ⟨k1, hn1, hp1⟩ (Le_sel (ts := [5, 4, 2, 1]) (ids := [8, 7, 6, 5, 0, 1, 2, 3, 4]) (nx := 9) (by kernel_rfl))
  have hc1' := of_decide_eq_true hc1
  have hk1 : k1 < b.fw.ships.length := by omega
  refine WP_skip ?_
  refine WP_seq (WP_block ?_)
  refine WSR tt_ok 1 ?_
  refine IX tt_ok (k1 : Int) b.fw.ships.length [] (by kernel_rfl) (fun hG => ⟨by omega, by omega⟩) ?_
  refine WPA tt_ok ?_
  refine WSA tt_ok ?_
  refine WP_cond ((k1 : Int) != ship) (by kernel_rfl) (fun hc3 => ?_) (fun hc3 => ?_)
  ·have hc3' := hc3; try simp only [bfs, ne_eq] at hc3'
   refine WP_region (WPO_run tt_ok 4 (by kernel_rfl) ?_)
   refine LIT tt_ok (by kernel_rfl) ?_
   refine LITSL 10 103 1 5 [.int .i64 (b.fw.ships.getD k1 zShip).m, .int .i64 (b.fw.ships.getD k1 zShip).aw.lo, .int .i64 (b.fw.ships.getD k1 zShip).aw.hi, .int .i64 (b.fw.ships.getD k1 zShip).sp.lo, .int .i64 (b.fw.ships.getD k1 zShip).sp.hi] [(b.fw.ships.getD k1 zShip)] encShip zShip (by kernel_rfl) rfl (fun _ => rfl) (fun n => rfl) ?_
   refine APP tt_ok (.s (.ref 8)) (.s (.ref 10)) 31 103 (some 32) 5 v1_15 ([(b.fw.ships.getD k1 zShip)]) encShip zShip (by kernel_rfl) (by kernel_rfl) (by kernel_rfl) (by kernel_rfl) (.inr (.inl ⟨8, rfl, (by kernel_rfl)⟩)) (.inr ⟨10, .own, rfl, (by kernel_rfl), (by simp only [List.length_cons, List.length_nil]; omega)⟩) (by simp) (fun y => rfl) (fun y => List.all_eq_true.1 rfl) (fun i hi => (by have hby : (tyL tt 103).map (·.bytes) = some 40 := (by kernel_rfl); rw [hi] at hby; simp only [Option.map_some, Option.some.injEq] at hby; rw [hby]; simp only [List.length_append, List.length_cons, List.length_nil]; omega)) ?_
   refine WPA tt_ok ?_
   refine WRA tt_ok ?_
   show Q1 .normal _
   exact LA_go hq1 (ci := IntKind.i64.wrap ((k1 : Int) + 1)) (v1_15 ++ ([(b.fw.ships.getD k1 zShip)])) hk1 (by show _ = ((k1 + 1 : Nat) : Int); rw [wrapI (by omega) (by omega)]; omega) (loopR_go hi1 hk1 hc1 (by unfold withoutX_b1; simp only [hc3, cond_true, cond_false])) (by simp only [List.length_append, List.length_cons, List.length_nil]; omega) (Le_ren [(8, 11)] (by repeat (first | exact trivial | refine ⟨by kernel_rfl, ?_⟩)) ⟨by kernel_rfl, rfl, by kernel_rfl, by kernel_rfl, rfl, by kernel_rfl, by kernel_rfl, rfl, by kernel_rfl, by kernel_rfl, rfl, by kernel_rfl, by kernel_rfl, rfl, by kernel_rfl, by kernel_rfl, rfl, by kernel_rfl, by kernel_rfl, rfl, by kernel_rfl, trivial⟩ (by kernel_rfl) (by kernel_rfl) (rnm_id (m := 5) (by kernel_rfl)) (by show 5 ≤ 9; decide) (by kernel_rfl) (by kernel_rfl))
  have hc3' := hc3; try simp only [bfs, ne_eq] at hc3'
  refine WP_skip ?_
  refine WRA tt_ok ?_
  show Q1 .normal _
  exact LA_go hq1 (ci := IntKind.i64.wrap ((k1 : Int) + 1)) v1_15 hk1 (by show _ = ((k1 + 1 : Nat) : Int); rw [wrapI (by omega) (by omega)]; omega) (loopR_go hi1 hk1 hc1 (by unfold withoutX_b1; simp only [hc3, cond_true, cond_false])) (by omega) (Le_sel (ts := [19, 18, 17, 5, 4, 2, 1]) (ids := [8, 7, 6, 5, 0, 1, 2, 3, 4]) (nx := 9) (by kernel_rfl))
 intro u1_0 hR1 hP1 s' hl
 obtain ⟨kP1, hkP1, hpP1⟩ := hP1
 replace hpP1 : u1_0.length ≤ kP1 := hpP1
 refine WP_le hl ?_
 clear hl s'
 refine WP_seq (WSA tt_ok ?_)
 refine WP_loopA (ρ := XBook) (withoutX_c2 b ship u1_0) (withoutX_b2 b ship u1_0) b.fw.sights.length ([]) (fun k : Nat => (k : Int)) (fun (ci : Int) (zz : (List Sight)) => ⟨65, [(39, [], .s (.int .i64 ci)), (38, [], .s (.int .i64 (b.fw.sights.length : Int))), (37, [], .s (.ref 3)), (4, [], .s (.p 6 0)), (2, [], .s (.p 5 0)), (1, [], .s (.int .i64 ship))], ((9, .sl .own 105 4 zz encSight zSight) :: (8, .sl .own 103 5 u1_0 encShip zShip) :: (7, .box 34 [.ref 2, .int .i64 b.fw.hear.lo, .int .i64 b.fw.hear.hi, .int .i64 b.fw.br, .int .i64 b.fw.cr, .int .i64 b.fw.sl, .ref 3]) :: (6, .box 37 [.v (.slice none 0 0), .int .i64 0, .int .i64 0, .int .i64 0, .int .i64 0, .int .i64 0, .int .i64 0, .int .i64 0, .int .i64 0, .int .i64 0, .int .i64 0, .int .i64 0, .int .i64 0, .v (.slice none 0 0), .v (.slice none 0 0), .int .i64 0, .int .i64 0, .int .i64 0, .int .i64 0, .int .i64 0, .v (.slice none 0 0), .int .i64 0, .int .i64 0, .int .i64 0, .v (.slice none 0 0)]) :: (5, .box 37 (xD (.ref 0) b (.ref 1) (.ref 8) (.ref 9) (.ref 4))) :: (roX b [])), 10, []⟩) (fun zz : (List Sight) => ⟨65, [(4, [], .s (.p 6 0)), (2, [], .s (.p 5 0))], ((9, .sl .own 105 4 zz encSight zSight) :: (8, .sl .own 103 5 u1_0 encShip zShip) :: (7, .box 34 [.ref 2, .int .i64 b.fw.hear.lo, .int .i64 b.fw.hear.hi, .int .i64 b.fw.br, .int .i64 b.fw.cr, .int .i64 b.fw.sl, .ref 3]) :: (6, .box 37 [.v (.slice none 0 0), .int .i64 0, .int .i64 0, .int .i64 0, .int .i64 0, .int .i64 0, .int .i64 0, .int .i64 0, .int .i64 0, .int .i64 0, .int .i64 0, .int .i64 0, .int .i64 0, .v (.slice none 0 0), .v (.slice none 0 0), .int .i64 0, .int .i64 0, .int .i64 0, .int .i64 0, .int .i64 0, .v (.slice none 0 0), .int .i64 0, .int .i64 0, .int .i64 0, .v (.slice none 0 0)]) :: (5, .box 37 (xD (.ref 0) b (.ref 1) (.ref 8) (.ref 9) (.ref 4))) :: (roX b [])), 10, []⟩) (fun (k2 : Nat) (zz : (List Sight)) => zz.length ≤ k2) (by simp) ⟨0, rfl, Le.trans (Le_nil (id := 5) (j := 20) (ty := 37) (e := 105) (cs := (xD (.ref 0) b (.ref 1) (.ref 8) (.v (.slice none 0 0)) (.ref 4))) (by kernel_rfl) (by kernel_rfl) (sz := 4) encSight zSight (fun _ => rfl) (by kernel_rfl)) (Le_sel (ts := [39, 38, 37, 4, 2, 1]) (ids := [9, 8, 7, 6, 5, 0, 1, 2, 3, 4]) (nx := 10) (by kernel_rfl))⟩ ?_ ?_
 ·intro k2 v2_21 hn2 hp2 hi2 Q2 hq2 ho2
  replace hp2 : v2_21.length ≤ k2 := hp2
  refine WSA tt_ok ?_
  refine WP_seq (WP_cond (decide ((k2 : Int) < (b.fw.sights.length : Int))) (by kernel_rfl) (fun hc4 => ?_) (fun hc4 => ?_))
  rotate_left
  ·refine WP_exit ?_
   show Q2 (.exit 2) _
   exact LA_exit hq2 v2_21 (loopR_end hi2 hc4) ⟨k2, hn2, hp2⟩ (Le_sel (ts := [4, 2]) (ids := [9, 8, 7, 6, 5, 0, 1, 2, 3, 4]) (nx := 10) (by kernel_rfl))
  have hc4' := of_decide_eq_true hc4
  have hk2 : k2 < b.fw.sights.length := by omega
  refine WP_skip ?_
  refine WP_seq (WP_block ?_)
  refine WP_seq (WP_region (IX tt_ok (k2 : Int) b.fw.sights.length [] (by kernel_rfl) (fun hG => ⟨by omega, by omega⟩) ?_))
  refine WPA tt_ok ?_
  refine WP_seq (WSA tt_ok ?_)
  refine WP_cond ((b.fw.sights.getD k2 zSight).ship == ship) (by kernel_rfl) (fun hc6 => ?_) (fun hc6 => ?_)
  ·have hc6' := hc6; try simp only [bfs, ne_eq] at hc6'
   refine WP_exit ?_
   refine WRA tt_ok ?_
   show Q2 .normal _
   exact LA_go hq2 (ci := IntKind.i64.wrap ((k2 : Int) + 1)) v2_21 hk2 (by show _ = ((k2 + 1 : Nat) : Int); rw [wrapI (by omega) (by omega)]; omega) (loopR_go hi2 hk2 hc4 (by unfold withoutX_b2; simp only [hc6, cond_true, cond_false])) (by omega) (Le_sel (ts := [39, 38, 37, 4, 2, 1]) (ids := [9, 8, 7, 6, 5, 0, 1, 2, 3, 4]) (nx := 10) (by kernel_rfl))
  have hc6' := hc6; try simp only [bfs, ne_eq] at hc6'
  refine WP_skip ?_
  refine WP_seq (WSA tt_ok ?_)
  refine WP_join (decide ((b.fw.sights.getD k2 zSight).ship > ship)) (fun q => ⟨65, [(9, [], .s (.p 10 0)), (39, [], .s (.int .i64 (k2 : Int))), (38, [], .s (.int .i64 (b.fw.sights.length : Int))), (37, [], .s (.ref 3)), (4, [], .s (.p 6 0)), (2, [], .s (.p 5 0)), (1, [], .s (.int .i64 ship))], ((10, .box 105 [.int .i64 (bif q then IntKind.i64.wrap ((b.fw.sights.getD k2 zSight).ship - 1) else (b.fw.sights.getD k2 zSight).ship), .int .i64 (b.fw.sights.getD k2 zSight).m, .int .i64 (b.fw.sights.getD k2 zSight).aw.lo, .int .i64 (b.fw.sights.getD k2 zSight).aw.hi]) :: (9, .sl .own 105 4 v2_21 encSight zSight) :: (8, .sl .own 103 5 u1_0 encShip zShip) :: (7, .box 34 [.ref 2, .int .i64 b.fw.hear.lo, .int .i64 b.fw.hear.hi, .int .i64 b.fw.br, .int .i64 b.fw.cr, .int .i64 b.fw.sl, .ref 3]) :: (6, .box 37 [.v (.slice none 0 0), .int .i64 0, .int .i64 0, .int .i64 0, .int .i64 0, .int .i64 0, .int .i64 0, .int .i64 0, .int .i64 0, .int .i64 0, .int .i64 0, .int .i64 0, .int .i64 0, .v (.slice none 0 0), .v (.slice none 0 0), .int .i64 0, .int .i64 0, .int .i64 0, .int .i64 0, .int .i64 0, .v (.slice none 0 0), .int .i64 0, .int .i64 0, .int .i64 0, .v (.slice none 0 0)]) :: (5, .box 37 (xD (.ref 0) b (.ref 1) (.ref 8) (.ref 9) (.ref 4))) :: (roX b [])), 11, []⟩) (by kernel_rfl) (fun hc8 => ?_) (fun hc8 => ?_) ?_
  ·have hc8' := of_decide_eq_true hc8
   refine WRA tt_ok ?_
   exact Le_sel (ts := [9, 39, 38, 37, 4, 2, 1]) (ids := [10, 9, 8, 7, 6, 5, 0, 1, 2, 3, 4]) (nx := 11) (by kernel_rfl)
  ·have hc8' := of_decide_eq_false hc8
   refine WP_skip ?_
   exact Le_sel (ts := [9, 39, 38, 37, 4, 2, 1]) (ids := [10, 9, 8, 7, 6, 5, 0, 1, 2, 3, 4]) (nx := 11) (by kernel_rfl)
  refine WP_region (WPO_run tt_ok 4 (by kernel_rfl) ?_)
  refine LIT tt_ok (by kernel_rfl) ?_
  refine LITSL 11 105 1 4 [.int .i64 (bif (decide ((b.fw.sights.getD k2 zSight).ship > ship)) then IntKind.i64.wrap ((b.fw.sights.getD k2 zSight).ship - 1) else (b.fw.sights.getD k2 zSight).ship), .int .i64 (b.fw.sights.getD k2 zSight).m, .int .i64 (b.fw.sights.getD k2 zSight).aw.lo, .int .i64 (b.fw.sights.getD k2 zSight).aw.hi] [(⟨bif (decide ((b.fw.sights.getD k2 zSight).ship > ship)) then IntKind.i64.wrap ((b.fw.sights.getD k2 zSight).ship - 1) else (b.fw.sights.getD k2 zSight).ship, (b.fw.sights.getD k2 zSight).m, (b.fw.sights.getD k2 zSight).aw⟩ : Sight)] encSight zSight (by kernel_rfl) rfl (fun _ => rfl) (fun n => rfl) ?_
  refine APP tt_ok (.s (.ref 9)) (.s (.ref 11)) 32 105 (some 60) 4 v2_21 ([(⟨bif (decide ((b.fw.sights.getD k2 zSight).ship > ship)) then IntKind.i64.wrap ((b.fw.sights.getD k2 zSight).ship - 1) else (b.fw.sights.getD k2 zSight).ship, (b.fw.sights.getD k2 zSight).m, (b.fw.sights.getD k2 zSight).aw⟩ : Sight)]) encSight zSight (by kernel_rfl) (by kernel_rfl) (by kernel_rfl) (by kernel_rfl) (.inr (.inl ⟨9, rfl, (by kernel_rfl)⟩)) (.inr ⟨11, .own, rfl, (by kernel_rfl), (by simp only [List.length_cons, List.length_nil]; omega)⟩) (by simp) (fun y => rfl) (fun y => List.all_eq_true.1 rfl) (fun i hi => (by have hby : (tyL tt 105).map (·.bytes) = some 32 := (by kernel_rfl); rw [hi] at hby; simp only [Option.map_some, Option.some.injEq] at hby; rw [hby]; simp only [List.length_append, List.length_cons, List.length_nil]; omega)) ?_
  refine WPA tt_ok ?_
  refine WRA tt_ok ?_
  show Q2 .normal _
  exact LA_go hq2 (ci := IntKind.i64.wrap ((k2 : Int) + 1)) (v2_21 ++ ([(⟨bif (decide ((b.fw.sights.getD k2 zSight).ship > ship)) then IntKind.i64.wrap ((b.fw.sights.getD k2 zSight).ship - 1) else (b.fw.sights.getD k2 zSight).ship, (b.fw.sights.getD k2 zSight).m, (b.fw.sights.getD k2 zSight).aw⟩ : Sight)])) hk2 (by show _ = ((k2 + 1 : Nat) : Int); rw [wrapI (by omega) (by omega)]; omega) (loopR_go hi2 hk2 hc4 (by unfold withoutX_b2; simp only [hc6, cond_true, cond_false])) (by simp only [List.length_append, List.length_cons, List.length_nil]; omega) (Le_ren [(9, 12)] (by repeat (first | exact trivial | refine ⟨by kernel_rfl, ?_⟩)) ⟨by kernel_rfl, rfl, by kernel_rfl, by kernel_rfl, rfl, by kernel_rfl, by kernel_rfl, rfl, by kernel_rfl, by kernel_rfl, rfl, by kernel_rfl, by kernel_rfl, rfl, by kernel_rfl, by kernel_rfl, rfl, by kernel_rfl, trivial⟩ (by kernel_rfl) (by kernel_rfl) (rnm_id (m := 5) (by kernel_rfl)) (by show 5 ≤ 10; decide) (by kernel_rfl) (by kernel_rfl))
 intro u2_0 hR2 hP2 s' hl
 obtain ⟨kP2, hkP2, hpP2⟩ := hP2
 replace hpP2 : u2_0.length ≤ kP2 := hpP2
 refine WP_le hl ?_
 clear hl s'
 refine WSA tt_ok ?_
 refine WP_ret ?_
 exact ⟨.g (xD (.ref 0) b (.ref 1) (.ref 8) (.ref 9) (.ref 4)), by kernel_rfl, fun nV w' h => ⟨nV 8, nV 9, by have e0 : nV 0 = g0 := h.ini 0 (by show 0 < 5; decide); have e1 : nV 1 = g1 := h.ini 1 (by show 1 < 5; decide); have e4 : nV 4 = g4 := h.ini 4 (by show 4 < 5; decide); rw [show withoutX b ship = (⟨b.lan, (⟨u1_0, b.fw.hear, b.fw.br, b.fw.cr, b.fw.sl, u2_0⟩ : Book), b.each, b.shore, b.turn, b.trips⟩ : XBook) from by unfold withoutX; simp only [hR1, hR2, cond_true, cond_false], ← e0, ← e1, ← e4]; rfl, h.bel, by rw [show withoutX b ship = (⟨b.lan, (⟨u1_0, b.fw.hear, b.fw.br, b.fw.cr, b.fw.sl, u2_0⟩ : Book), b.each, b.shore, b.turn, b.trips⟩ : XBook) from by unfold withoutX; simp only [hR1, hR2, cond_true, cond_false]]; exact ⟨own_lt (id := 8) (e := 103) (sz := 5) (li := u1_0) (enc := encShip) (z := zShip) h (by kernel_rfl), own_lt (id := 9) (e := 105) (sz := 4) (li := u2_0) (enc := encSight) (z := zSight) h (by kernel_rfl), trivial⟩, by rw [show withoutX b ship = (⟨b.lan, (⟨u1_0, b.fw.hear, b.fw.br, b.fw.cr, b.fw.sl, u2_0⟩ : Book), b.each, b.shore, b.turn, b.trips⟩ : XBook) from by unfold withoutX; simp only [hR1, hR2, cond_true, cond_false]]; exact ⟨⟨fun g h1 h2 h3 h4 => own_apart h (i := 8) (j := 9) (x := .sl .own 103 5 u1_0 encShip zShip) (y := .sl .own 105 4 u2_0 encSight zSight) (by kernel_rfl) (by kernel_rfl) (by decide) rfl g h1 h3, trivial⟩, trivial, trivial⟩⟩⟩
def shipsO (l : List Ship) (ship : Int) : List Ship := (List.range l.length).flatMap fun k : Nat => bif (k : Int) != ship then [l.getD k zShip] else []
def sightO (ship : Int) (x : Sight) : List Sight := bif x.ship == ship then [] else [⟨bif decide (x.ship > ship) then IntKind.i64.wrap (x.ship - 1) else x.ship, x.m, x.aw⟩]
def sightsO (l : List Sight) (ship : Int) : List Sight := (List.range l.length).flatMap fun k : Nat => sightO ship (l.getD k zSight)
theorem withoutX_eq (b : XBook) (ship : Int) : withoutX b ship = ⟨b.lan, ⟨shipsO b.fw.ships ship, b.fw.hear, b.fw.br, b.fw.cr, b.fw.sl, sightsO b.fw.sights ship⟩, b.each, b.shore, b.turn, b.trips⟩ := by
 unfold withoutX
 rw [loopR_app (b := withoutX_b1 b ship) (c := withoutX_c1 b ship) (fun k : Nat => bif (k : Int) != ship then [b.fw.ships.getD k zShip] else []) (fun k v hk => by simp only [withoutX_c1]; rw [decide_eq_true]; omega) (fun k v hk => by
  simp only [withoutX_b1]; cases (k : Int) != ship <;> simp)]
 simp only [List.nil_append]
 rw [loopR_app (b := withoutX_b2 b ship _) (c := withoutX_c2 b ship _) (fun k : Nat => sightO ship (b.fw.sights.getD k zSight)) (fun k v hk => by simp only [withoutX_c2]; rw [decide_eq_true]; omega) (fun k v hk => by
  simp only [withoutX_b2, sightO]; cases (b.fw.sights.getD k zSight).ship == ship <;> simp)]
 rfl
theorem withoutX_rest (b : XBook) (ship : Int) : (withoutX b ship).trips = b.trips ∧ (withoutX b ship).each = b.each := by rw [withoutX_eq]; exact ⟨rfl, rfl⟩
def shipA_c1 (b : XBook) (k1 : Nat) : (Int × Int) → Bool := fun (v1_1, v1_2) => decide ((k1 : Int) < (b.fw.ships.length : Int))
def shipA_b1 (b : XBook) (k1 : Nat) : (Int × Int) → Bd (Int × Int) (Int × Int) := fun (v1_1, v1_2) => .go (bif ((((planX (wl b (withoutX b (k1 : Int))) ).1.length : Int) == ((plnX b).1.length : Int)) && (decide (((planX (wl b (withoutX b (k1 : Int))) ).1.getD (IntKind.i64.wrap (((plnX b).1.length : Int) - 1)).toNat 0) < v1_1))) then ((planX (wl b (withoutX b (k1 : Int))) ).1.getD (IntKind.i64.wrap (((plnX b).1.length : Int) - 1)).toNat 0) else v1_1, bif ((((planX (wl b (withoutX b (k1 : Int))) ).1.length : Int) == ((plnX b).1.length : Int)) && (decide (((planX (wl b (withoutX b (k1 : Int))) ).1.getD (IntKind.i64.wrap (((plnX b).1.length : Int) - 1)).toNat 0) < v1_1))) then (k1 : Int) else v1_2)
def shipA (b : XBook) : Int × Int :=
 (bif errX b (true) == 0 then (bif (plnX b).2.2 != 0 then (0, (plnX b).2.2) else (match loopR (shipA_c1 b) (shipA_b1 b) b.fw.ships.length 0 (((plnX b).1.getD (IntKind.i64.wrap (((plnX b).1.length : Int) - 1)).toNat 0), -1) with | .brk (u1_0, u1_1) => (bif decide (u1_1 < 0) then (0, 4) else (u1_1, 0)) | .ret r => r)) else (bif (errX b true) != 0 then (0, errX b true) else (0, errX b true)))
theorem shipA_calls (g0 g1 g2 g3 g4 : Value) (b : XBook) (w : World) (r0 : Reads w g0 2 b.lan.tides encSpan zSpan) (r1 : Reads w g1 3 b.lan.sounds encSound zSound) (r2 : Reads w g2 5 b.fw.ships encShip zShip) (r3 : Reads w g3 4 b.fw.sights encSight zSight) (r4 : Reads w g4 2 b.trips encTrip zTrip) (ha : AsksAt w) (hun : UnknownAt w) (hnw0 : NowhereAt w) (hla : LAsksAt w) (hsd : SidesAt w) (hxn : XNowhereAt w) : Calls Tryd.prog 34 #[.agg ((xV g0 b g1 g2 g3 g4).toArray)] w fun e w' => e = .returned (.tuple #[iv (shipA b).1, iv (shipA b).2]) ∧ Below w.heap.size w w' := by
 cases hq : (errX b (true) == 0)
 ·refine CW tt_ok [g0, g1, g2, g3, g4] 5 [.g (xQ b)] (roX b ((5, .pf AsksAt (· = 5)) :: hp5)) 11 Tryd.func34 rfl rfl rfl (by simp [r0.one, r1.one, r2.one, r3.one, r4.one]) ⟨ro_in r0, ro_in r1, ro_in r2, ro_in r3, ro_in r4, pf_in ha, pf_in hun, pf_in hnw0, pf_in hla, pf_in hsd, pf_in hxn, trivial⟩ ?_
  have hl0 := Reads.len r0
  have hl1 := Reads.len r1
  have hl2 := Reads.len r2
  have hl3 := Reads.len r3
  have hl4 := Reads.len r4
  refine WSA tt_ok ?_
  refine WSR tt_ok 1 ?_
  refine CAL 58 [.g (xQ b), .s (.bool true)] (.t [(true, zX), (false, [.v (.slice none 0 0)]), (false, [.int .i64 0]), (false, [.int .i64 (errX b true)])]) [] (fun _ nV w h => plannedX_no_calls (nV 0) (nV 1) (nV 2) (nV 3) (nV 4) b true w (h.rd 0 24) (h.rd 1 112) (h.rd 2 103) (h.rd 3 105) (h.rd 4 60) (h.ft 5 5) (h.ft 6 4) (h.ft 7 3) (h.ft 8 1) (h.ft 9 0) (h.ft 10 2) hq) ?_
  refine WPA tt_ok ?_
  refine WP_seq (WSA tt_ok ?_)
  refine WP_cond ((errX b true) != 0) (by kernel_rfl) (fun hc1 => ?_) (fun h => by rw [(errX_ne hq)] at h; cases h)
  refine WSA tt_ok ?_
  refine WP_ret ?_
  exact ⟨.t [(false, [.int .i64 0]), (false, [.int .i64 (errX b true)])], by kernel_rfl, fun nV w' h => ⟨by rw [show shipA b = (0, errX b true) from by unfold shipA; simp only [hq, hc1, cond_true, cond_false]]; rfl, h.bel⟩⟩
 have hqe : errX b (true) = 0 := by simpa using hq
 obtain ⟨hc01, hc02, hc03⟩ := errX_ok.1 hqe
 have hvX := checkX_valid.1 hc01
 have he := hvX.each.1
 have hsh := hvX.shore
 have htu := hvX.turn
 have hnt := hvX.nt
 have hcr := hvX.fw.cr
 have hns := hvX.fw.nships
 have hng := hvX.fw.nsights
 refine CW tt_ok [g0, g1, g2, g3, g4] 5 [.g (xQ b)] (roX b ((5, .pf AsksAt (· = 5)) :: hp5)) 11 Tryd.func34 rfl rfl rfl (by simp [r0.one, r1.one, r2.one, r3.one, r4.one]) ⟨ro_in r0, ro_in r1, ro_in r2, ro_in r3, ro_in r4, pf_in ha, pf_in hun, pf_in hnw0, pf_in hla, pf_in hsd, pf_in hxn, trivial⟩ ?_
 have hl0 := Reads.len r0
 have hl1 := Reads.len r1
 have hl2 := Reads.len r2
 have hl3 := Reads.len r3
 have hl4 := Reads.len r4
 refine WSA tt_ok ?_
 refine WSR tt_ok 1 ?_
 refine CALLMR 58 [.g (xQ b), .s (.bool true)] (fkL b.fw) fkKey fkVal 3 1 (plnX b).1 encI 0 (fun gM1 => .t [(true, (xR b gM1)), (false, [.ref 13]), (false, [.int .i64 (plnX b).2.1]), (false, [.int .i64 (plnX b).2.2])]) 12 (by kernel_rfl) (by kernel_rfl) (goes_of (by kernel_rfl)) (fun _ => (by kernel_rfl)) (fun _ => (by kernel_rfl)) (fun _ => rfl) (fun nV w h => (plannedX_yes_calls (nV 0) (nV 1) (nV 2) (nV 3) (nV 4) b true w (h.rd 0 24) (h.rd 1 112) (h.rd 2 103) (h.rd 3 105) (h.rd 4 60) (h.ft 5 5) (h.ft 6 4) (h.ft 7 3) (h.ft 8 1) (h.ft 9 0) (h.ft 10 2) hq (by assumption) (by omega)).mono fun e w' ⟨g, V, h1, h2, h3, h4, h5, h6⟩ => ⟨g, V, h1.trans (by kernel_rfl), h2, h3, h4, h5, h6⟩) (fun gM1 => ?_)
 refine WPA tt_ok ?_
 refine WP_seq (WSA tt_ok ?_)
 refine WP_cond ((plnX b).2.2 != 0) (by kernel_rfl) (fun hc3 => ?_) (fun hc3 => ?_)
 ·have hc3' := hc3; try simp only [bfs, ne_eq] at hc3'
  refine WSA tt_ok ?_
  refine WP_ret ?_
  exact ⟨.t [(false, [.int .i64 0]), (false, [.int .i64 (plnX b).2.2])], by kernel_rfl, fun nV w' h => ⟨by rw [show shipA b = (0, (plnX b).2.2) from by unfold shipA; simp only [hq, hc3, cond_true, cond_false]]; rfl, h.bel⟩⟩
 have hc3' := hc3; try simp only [bfs, ne_eq] at hc3'
 refine WP_skip ?_
 have hpl := pln_len (by assumption : ((plnX b).2.2 != 0) = false)
 have hwp : IntKind.i64.wrap (((plnX b).1.length : Int) - 1) = (b.trips.length : Int) - 1 := by rw [hpl]; exact wrapI (by omega) (by omega)
 refine WSA tt_ok ?_
 refine WSR tt_ok 2 ?_
 refine IX tt_ok (IntKind.i64.wrap (((plnX b).1.length : Int) - 1)) (plnX b).1.length [] (by kernel_rfl) (fun hG => (by (try simp only [AllEq, and_true, Bool.and_eq_true, beq_iff_eq, decide_eq_true_eq] at hG); constructor <;> omega)) ?_
 refine WPA tt_ok ?_
 refine WP_seq (WSA tt_ok ?_)
 refine WP_loopA (ρ := Int × Int) (shipA_c1 b) (shipA_b1 b) b.fw.ships.length (((plnX b).1.getD (IntKind.i64.wrap (((plnX b).1.length : Int) - 1)).toNat 0), -1) (fun k : Nat => (k : Int)) (fun (ci : Int) (zz : Int × Int) => ⟨68, [(35, [], .s (.int .i64 ci)), (34, [], .s (.int .i64 (b.fw.ships.length : Int))), (10, [], .s (.int .i64 zz.1)), (9, [], .s (.int .i64 (IntKind.i64.wrap (((plnX b).1.length : Int) - 1)))), (8, [], .s (.int .i64 zz.2)), (5, [], .s (.ref 13)), (1, [], .s (.p 11 0))], ((14, .box 78 (xR b gM1)) :: (13, .sl .ro 3 1 (plnX b).1 encI 0) :: (12, mapE gM1 (fkL b.fw) fkKey fkVal) :: (11, .box 37 (xQ b)) :: (roX b ((5, .pf AsksAt (· = 5)) :: hp5))), 15, []⟩) (fun zz : Int × Int => ⟨68, [(8, [], .s (.int .i64 zz.2))], ((14, .box 78 (xR b gM1)) :: (13, .sl .ro 3 1 (plnX b).1 encI 0) :: (12, mapE gM1 (fkL b.fw) fkKey fkVal) :: (11, .box 37 (xQ b)) :: (roX b ((5, .pf AsksAt (· = 5)) :: hp5))), 15, []⟩) (fun k zz => True) trivial ⟨0, rfl, Le_sel (ts := [35, 34, 10, 9, 8, 5, 1]) (ids := [14, 13, 12, 11, 0, 1, 2, 3, 4, 5, 6, 7, 8, 9, 10]) (nx := 15) (by kernel_rfl)⟩ ?_ ?_
 ·intro k1 zz hn1 hp1 hi1 Q1 hq1 ho1
  obtain ⟨v1_1, v1_2⟩ := zz
  refine WSA tt_ok ?_
  refine WP_seq (WP_cond (decide ((k1 : Int) < (b.fw.ships.length : Int))) (by kernel_rfl) (fun hc4 => ?_) (fun hc4 => ?_))
  rotate_left
  ·refine WP_exit ?_
   show Q1 (.exit 0) _
   exact LA_exit hq1 (v1_1, v1_2) (loopR_end hi1 hc4) ⟨k1, hn1, hp1⟩ (Le_sel (ts := [8]) (ids := [14, 13, 12, 11, 0, 1, 2, 3, 4, 5, 6, 7, 8, 9, 10]) (nx := 15) (by kernel_rfl))
  have hc4' := of_decide_eq_true hc4
  have hk1 : k1 < b.fw.ships.length := by omega
  obtain ⟨hwt, hwe⟩ := withoutX_rest b (k1 : Int)
  have hwt4 : (withoutX b (k1 : Int)).trips.length ≤ 4 := by rw [hwt]; omega
  have hwe1 : 1 ≤ (withoutX b (k1 : Int)).each := by rw [hwe]; omega
  refine WP_skip ?_
  refine WP_seq (WP_block ?_)
  refine WSA tt_ok ?_
  refine WSR tt_ok 2 ?_
  refine CALLRS 62 [.g (xQ b), .s (.int .i64 (k1 : Int))] (.g (xD (.ref 0) (withoutX b (k1 : Int)) (.ref 1) (.ref 15) (.ref 16) (.ref 4))) [⟨103, 5, _, (withoutX b (k1 : Int)).fw.ships, encShip, zShip⟩, ⟨105, 4, _, (withoutX b (k1 : Int)).fw.sights, encSight, zSight⟩] 15 (by kernel_rfl) (by kernel_rfl) (goes_of (by kernel_rfl)) (by kernel_rfl) (by kernel_rfl) ⟨⟨(Nat.le_of_ble_eq_true rfl), fun _ => rfl⟩, ⟨(Nat.le_of_ble_eq_true rfl), fun _ => rfl⟩, trivial⟩ (fun nV w h => (withoutX_calls (nV 0) (nV 1) (nV 2) (nV 3) (nV 4) b (k1 : Int) w (h.rd 0 24) (h.rd 1 112) (h.rd 2 103) (h.rd 3 105) (h.rd 4 60) (by first | assumption | omega | (simp only [List.length_set, List.nil_append, List.length_append, List.length_nil]; omega)) (by first | assumption | omega | (simp only [List.length_set, List.nil_append, List.length_append, List.length_nil]; omega))).mono fun e w' ⟨v0, v1, h1, h2, h3, _⟩ => ⟨[v0, v1], h1, h2, h3⟩) ?_
  refine CALLMAP 61 [.g (xD (.ref 0) (withoutX b (k1 : Int)) (.ref 1) (.ref 15) (.ref 16) (.ref 4))] (fkL ((wl b (withoutX b (k1 : Int)))).fw) fkKey fkVal (fun gM3 => .g (xC (.ref 0) (withoutX b (k1 : Int)) (.ref 1) (.ref 15) (.ref 16) (.ref 4) (.v (.map (some gM3))))) (by kernel_rfl) (goes_of (by kernel_rfl)) (fun _ => (by kernel_rfl)) (fun _ => (by kernel_rfl)) (fun _ n n1 h => (AV.c_congr (okB_sound (by kernel_rfl)) h).symm) (fun nV w h => opened_fkL (nV 0) (nV 1) (nV 15) (nV 16) (nV 4) (wl b (withoutX b (k1 : Int))) w (h.rd 0 24) (h.rd 1 112) (h.rd 15 103) (h.rd 16 105) (h.rd 4 60) (h.ft 5 5) (h.ft 10 2)) (fun gM3 => ?_)
  refine CALLR 59 [.g (xC (.ref 0) (withoutX b (k1 : Int)) (.ref 1) (.ref 15) (.ref 16) (.ref 4) (.v (.map (some gM3))))] (.t [(false, [.ref 18]), (false, [.int .i64 (planX (wl b (withoutX b (k1 : Int))) ).2])]) 3 1 (planX (wl b (withoutX b (k1 : Int))) ).1 encI 0 18 (by kernel_rfl) (by kernel_rfl) (goes_of (by kernel_rfl)) (by kernel_rfl) (by kernel_rfl) (by decide) (fun _ => rfl) ((fun nV w h => (planX_calls (nV 0) (nV 1) (nV 15) (nV 16) (nV 4) gM3 (wl b (withoutX b (k1 : Int)))  w (h.rd 0 24) (h.rd 1 112) (h.rd 15 103) (h.rd 16 105) (h.rd 4 60) (h.ents (17, mapE gM3 (fkL ((wl b (withoutX b (k1 : Int)))).fw) fkKey fkVal) (fnd_mem (by kernel_rfl))).1 (h.ft 6 4) (h.ft 7 3) (h.ft 8 1) (h.ft 9 0) (h.ft 10 2) (by first | assumption | omega | (simp only [List.length_set, List.nil_append, List.length_append, List.length_nil]; omega)) (by first | assumption | omega | (simp only [List.length_set, List.nil_append, List.length_append, List.length_nil]; omega))).mono fun e w' h1 => weak_fresh h1)) ?_
  refine WPA tt_ok ?_
  refine WSR tt_ok 8 ?_
  refine IX tt_ok (IntKind.i64.wrap (((plnX b).1.length : Int) - 1)) (planX (wl b (withoutX b (k1 : Int))) ).1.length [(((planX (wl b (withoutX b (k1 : Int))) ).1.length : Int) == ((plnX b).1.length : Int), true)] (by kernel_rfl) (fun hG => (by (try simp only [AllEq, and_true, Bool.and_eq_true, beq_iff_eq, decide_eq_true_eq] at hG); constructor <;> omega)) ?_
  refine WPA tt_ok ?_
  refine WP_join ((((planX (wl b (withoutX b (k1 : Int))) ).1.length : Int) == ((plnX b).1.length : Int)) && (decide (((planX (wl b (withoutX b (k1 : Int))) ).1.getD (IntKind.i64.wrap (((plnX b).1.length : Int) - 1)).toNat 0) < v1_1))) (fun q => ⟨68, [(10, [], .s (.int .i64 (bif q then ((planX (wl b (withoutX b (k1 : Int))) ).1.getD (IntKind.i64.wrap (((plnX b).1.length : Int) - 1)).toNat 0) else v1_1))), (8, [], .s (.int .i64 (bif q then (k1 : Int) else v1_2))), (35, [], .s (.int .i64 (k1 : Int))), (34, [], .s (.int .i64 (b.fw.ships.length : Int))), (9, [], .s (.int .i64 (IntKind.i64.wrap (((plnX b).1.length : Int) - 1)))), (5, [], .s (.ref 13)), (1, [], .s (.p 11 0))], ((18, .sl .ro 3 1 (planX (wl b (withoutX b (k1 : Int))) ).1 encI 0) :: (17, mapE gM3 (fkL ((wl b (withoutX b (k1 : Int)))).fw) fkKey fkVal) :: (16, .sl .ro 105 4 (withoutX b (k1 : Int)).fw.sights encSight zSight) :: (15, .sl .ro 103 5 (withoutX b (k1 : Int)).fw.ships encShip zShip) :: (14, .box 78 (xR b gM1)) :: (13, .sl .ro 3 1 (plnX b).1 encI 0) :: (12, mapE gM1 (fkL b.fw) fkKey fkVal) :: (11, .box 37 (xQ b)) :: (roX b ((5, .pf AsksAt (· = 5)) :: hp5))), 19, []⟩) (by kernel_rfl) (fun hc6 => ?_) (fun hc6 => ?_) ?_
  ·have hc6' := hc6; try simp only [bfs, ne_eq] at hc6'
   refine WP_draw (by kernel_rfl) (by kernel_rfl) ?_
   refine WPQ_run tt_ok 3 (by kernel_rfl) ?_
   refine QIX tt_ok (IntKind.i64.wrap (((plnX b).1.length : Int) - 1)) (planX (wl b (withoutX b (k1 : Int))) ).1.length [] (by kernel_rfl) (fun hG => (by (try simp only [AllEq, and_true, Bool.and_eq_true, beq_iff_eq, decide_eq_true_eq] at hG); constructor <;> omega)) ?_
   refine WPQ_all tt_ok (by kernel_rfl) ?_
   exact Le_sel (ts := [10, 8, 35, 34, 9, 5, 1]) (ids := [18, 17, 16, 15, 14, 13, 12, 11, 0, 1, 2, 3, 4, 5, 6, 7, 8, 9, 10]) (nx := 19) (by kernel_rfl)
  ·have hc6' := hc6; try simp only [bfs, ne_eq] at hc6'
   refine WP_skip ?_
   exact Le_sel (ts := [10, 8, 35, 34, 9, 5, 1]) (ids := [18, 17, 16, 15, 14, 13, 12, 11, 0, 1, 2, 3, 4, 5, 6, 7, 8, 9, 10]) (nx := 19) (by kernel_rfl)
  refine WRA tt_ok ?_
  show Q1 .normal _
  exact LA_go hq1 (ci := IntKind.i64.wrap ((k1 : Int) + 1)) (bif ((((planX (wl b (withoutX b (k1 : Int))) ).1.length : Int) == ((plnX b).1.length : Int)) && (decide (((planX (wl b (withoutX b (k1 : Int))) ).1.getD (IntKind.i64.wrap (((plnX b).1.length : Int) - 1)).toNat 0) < v1_1))) then ((planX (wl b (withoutX b (k1 : Int))) ).1.getD (IntKind.i64.wrap (((plnX b).1.length : Int) - 1)).toNat 0) else v1_1, bif ((((planX (wl b (withoutX b (k1 : Int))) ).1.length : Int) == ((plnX b).1.length : Int)) && (decide (((planX (wl b (withoutX b (k1 : Int))) ).1.getD (IntKind.i64.wrap (((plnX b).1.length : Int) - 1)).toNat 0) < v1_1))) then (k1 : Int) else v1_2) hk1 (by show _ = ((k1 + 1 : Nat) : Int); rw [wrapI (by omega) (by omega)]; omega) (loopR_go hi1 hk1 hc4 (rfl)) trivial (Le_sel (ts := [35, 34, 10, 9, 8, 5, 1]) (ids := [14, 13, 12, 11, 0, 1, 2, 3, 4, 5, 6, 7, 8, 9, 10]) (nx := 15) (by kernel_rfl))
 intro zz hR1 hP1 s' hl
 obtain ⟨u1_0, u1_1⟩ := zz
 refine WP_le hl ?_
 clear hl s'
 refine WP_seq (WSA tt_ok ?_)
 refine WP_cond (decide (u1_1 < 0)) (by kernel_rfl) (fun hc8 => ?_) (fun hc8 => ?_)
 ·have hc8' := of_decide_eq_true hc8
  refine WSA tt_ok ?_
  refine WP_ret ?_
  exact ⟨.t [(false, [.int .i64 0]), (false, [.int .i64 4])], by kernel_rfl, fun nV w' h => ⟨by rw [show shipA b = (0, 4) from by unfold shipA; simp only [hq, hc3, hR1, hc8, cond_true, cond_false]]; rfl, h.bel⟩⟩
 have hc8' := of_decide_eq_false hc8
 refine WP_skip ?_
 refine WSA tt_ok ?_
 refine WP_ret ?_
 exact ⟨.t [(false, [.int .i64 u1_1]), (false, [.int .i64 0])], by kernel_rfl, fun nV w' h => ⟨by rw [show shipA b = (u1_1, 0) from by unfold shipA; simp only [hq, hc3, hR1, hc8, cond_true, cond_false]]; rfl, h.bel⟩⟩
end Go.Proofs.YtpfglknbkpcfnaaDoor.X
namespace Go.Proofs.YtpfglknbkpcfnaaDoor.Eng
open Go Go.RowKit
section
variable {P : Program} {tt : TT} {cx : Cx} {s s' : AS} {Q : Exit → AS → Prop} {ops : Array Oper} {l : List Oper}
theorem CALLG4 (k : FuncId) (vs : List AV) (r : Value → Value → Value → Value → AV) (x0 x1 x2 x3 : RO) (h : (callA ops s l).map (fun x => (x.1, x.2.1, x.2.2.2.2)) = some (k, vs, [])) (hgo : goes P k)
  (hp : ∀ (A0 : Option Addr) (c0 : Nat) (A1 : Option Addr) (c1 : Nat) (A2 : Option Addr) (c2 : Nat) (A3 : Option Addr) (c3 : Nat), (callPN ops s l (addFs s [x0, x1, x2, x3] [.slice A0 x0.li.length c0, .slice A1 x1.li.length c1, .slice A2 x2.li.length c2, .slice A3 x3.li.length c3]) (r (.slice A0 x0.li.length c0) (.slice A1 x1.li.length c1) (.slice A2 x2.li.length c2) (.slice A3 x3.li.length c3))).isSome = true) (hr : ∀ (A0 : Option Addr) (c0 : Nat) (A1 : Option Addr) (c1 : Nat) (A2 : Option Addr) (c2 : Nat) (A3 : Option Addr) (c3 : Nat), okB (addFs s [x0, x1, x2, x3] [.slice A0 x0.li.length c0, .slice A1 x1.li.length c1, .slice A2 x2.li.length c2, .slice A3 x3.li.length c3]) (r (.slice A0 x0.li.length c0) (.slice A1 x1.li.length c1) (.slice A2 x2.li.length c2) (.slice A3 x3.li.length c3)) = true) (hrc : ∀ (A0 : Option Addr) (c0 : Nat) (A1 : Option Addr) (c1 : Nat) (A2 : Option Addr) (c2 : Nat) (A3 : Option Addr) (c3 : Nat) n n', (∀ id, id < s.nx → n' id = n id) → (r (.slice A0 x0.li.length c0) (.slice A1 x1.li.length c1) (.slice A2 x2.li.length c2) (.slice A3 x3.li.length c3)).c n = (r (.slice A0 x0.li.length c0) (.slice A1 x1.li.length c1) (.slice A2 x2.li.length c2) (.slice A3 x3.li.length c3)).c n') (henc : encRs [x0, x1, x2, x3])
  (hcall : ∀ n w, HSat cx n s w → Calls P k (vs.map (AV.c n)).toArray w fun e' w' => ∃ v0 v1 v2 v3, e' = .returned ((r v0 v1 v2 v3).c n) ∧ Below w.heap.size w w' ∧ fineRs w.heap.size w' [x0, x1, x2, x3] [v0, v1, v2, v3] ∧ apartL [x0, x1, x2, x3] [v0, v1, v2, v3])
  (hK : ∀ (A0 : Option Addr) (c0 : Nat) (A1 : Option Addr) (c1 : Nat) (A2 : Option Addr) (c2 : Nat) (A3 : Option Addr) (c3 : Nat), WPO P cx ops l.tail ((callPN ops s l (addFs s [x0, x1, x2, x3] [.slice A0 x0.li.length c0, .slice A1 x1.li.length c1, .slice A2 x2.li.length c2, .slice A3 x3.li.length c3]) (r (.slice A0 x0.li.length c0) (.slice A1 x1.li.length c1) (.slice A2 x2.li.length c2) (.slice A3 x3.li.length c3))).getD s) Q) : WPO P cx ops l s Q :=
 CALLX (σ := Option Addr × Nat × Option Addr × Nat × Option Addr × Nat × Option Addr × Nat) k vs (fun u => addFs s [x0, x1, x2, x3] [.slice u.1 x0.li.length u.2.1, .slice u.2.2.1 x1.li.length u.2.2.2.1, .slice u.2.2.2.2.1 x2.li.length u.2.2.2.2.2.1, .slice u.2.2.2.2.2.2.1 x3.li.length u.2.2.2.2.2.2.2]) (fun u => r (.slice u.1 x0.li.length u.2.1) (.slice u.2.2.1 x1.li.length u.2.2.2.1) (.slice u.2.2.2.2.1 x2.li.length u.2.2.2.2.2.1) (.slice u.2.2.2.2.2.2.1 x3.li.length u.2.2.2.2.2.2.2)) h hgo (fun u => hp (u.1) (u.2.1) (u.2.2.1) (u.2.2.2.1) (u.2.2.2.2.1) (u.2.2.2.2.2.1) (u.2.2.2.2.2.2.1) (u.2.2.2.2.2.2.2)) (fun u => hr (u.1) (u.2.1) (u.2.2.1) (u.2.2.2.1) (u.2.2.2.2.1) (u.2.2.2.2.2.1) (u.2.2.2.2.2.2.1) (u.2.2.2.2.2.2.2)) (fun u => addFs_nx _ _ _) (fun u => addFs_env _ _ _)
  (fun n w hh => (hcall n w hh).mono fun e' w' ⟨v0, v1, v2, v3, h1, h2, h3, h4⟩ => by
  obtain ⟨A0, c0, rfl, _⟩ : ∃ A c, v0 = .slice A x0.li.length c ∧ True := (by obtain ⟨A, c, h, _⟩ := (h3.1).1; exact ⟨A, c, h, trivial⟩)
  obtain ⟨A1, c1, rfl, _⟩ : ∃ A c, v1 = .slice A x1.li.length c ∧ True := (by obtain ⟨A, c, h, _⟩ := (h3.2.1).1; exact ⟨A, c, h, trivial⟩)
  obtain ⟨A2, c2, rfl, _⟩ : ∃ A c, v2 = .slice A x2.li.length c ∧ True := (by obtain ⟨A, c, h, _⟩ := (h3.2.2.1).1; exact ⟨A, c, h, trivial⟩)
  obtain ⟨A3, c3, rfl, _⟩ : ∃ A c, v3 = .slice A x3.li.length c ∧ True := (by obtain ⟨A, c, h, _⟩ := (h3.2.2.2.1).1; exact ⟨A, c, h, trivial⟩)
  exact ⟨(A0, c0, A1, c1, A2, c2, A3, c3), nilF n s.nx [x0, x1, x2, x3], fun id hid => nilF_lt _ n s.nx id hid, by rw [h1]; exact congrArg _ (hrc A0 c0 A1 c1 A2 c2 A3 c3 n _ (fun id hid => nilF_lt _ n s.nx id hid)), hh.addFs h2 _ _ henc h3 (apartL_F h4)⟩) (fun u => hK (u.1) (u.2.1) (u.2.2.1) (u.2.2.2.1) (u.2.2.2.2.1) (u.2.2.2.2.2.1) (u.2.2.2.2.2.2.1) (u.2.2.2.2.2.2.2))
end
end Go.Proofs.YtpfglknbkpcfnaaDoor.Eng
namespace Go.Proofs.YtpfglknbkpcfnaaDoor.X
open Go Go.RowKit Go.Proofs.YtpfglknbkpcfnaaDoor.Eng Go.Proofs.YtpfglknbkpcfnaaDoor.Fw
def insideF (n : Int) (low : Int) (high : Int) : Bool :=
 (decide (n ≥ low)) && (decide (n ≤ high))
theorem insideF_calls  (n : Int) (low : Int) (high : Int) (w : World)   : Calls Tryd.prog 21 #[iv n, iv low, iv high] w fun e w' => e = .returned (.bool (insideF n low high)) ∧ Below w.heap.size w w' := by
 refine C0 tt_ok [.s (.int .i64 n), .s (.int .i64 low), .s (.int .i64 high)] Tryd.func21 rfl rfl rfl ?_
 refine WSA tt_ok ?_
 refine WSA tt_ok ?_
 refine WP_ret ?_
 exact ⟨.s (.bool ((decide (n ≥ low)) && (decide (n ≤ high)))), by kernel_rfl, fun nV w' h => ⟨by rw [show insideF n low high = ((decide (n ≥ low)) && (decide (n ≤ high))) from rfl]; rfl, h.bel⟩⟩
def rangeF (low : Int) (high : Int) : Span :=
 (⟨low, high⟩ : Span)
theorem rangeF_calls  (low : Int) (high : Int) (w : World)   : Calls Tryd.prog 66 #[iv low, iv high] w fun e w' => e = .returned (.agg #[iv (rangeF low high).lo, iv (rangeF low high).hi]) ∧ Below w.heap.size w w' := by
 refine C0 tt_ok [.s (.int .i64 low), .s (.int .i64 high)] Tryd.func66 rfl rfl rfl ?_
 refine WSA tt_ok ?_
 refine WSA tt_ok ?_
 refine WP_ret ?_
 exact ⟨.g [.int .i64 low, .int .i64 high], by kernel_rfl, fun nV w' h => ⟨by rw [show rangeF low high = (⟨low, high⟩ : Span) from rfl]; rfl, h.bel⟩⟩
def pointF (n : Int) : Span :=
 (rangeF n n)
theorem pointF_calls  (n : Int) (w : World)   : Calls Tryd.prog 65 #[iv n] w fun e w' => e = .returned (.agg #[iv (pointF n).lo, iv (pointF n).hi]) ∧ Below w.heap.size w w' := by
 refine C0 tt_ok [.s (.int .i64 n)] Tryd.func65 rfl rfl rfl ?_
 refine WSA tt_ok ?_
 refine WSR tt_ok 2 ?_
 refine CAL 66 [.s (.int .i64 n), .s (.int .i64 n)] (.g [.int .i64 (rangeF n n).lo, .int .i64 (rangeF n n).hi]) [] (fun hG nV w h => rangeF_calls  n n w  ) ?_
 refine WPA tt_ok ?_
 refine WP_ret ?_
 exact ⟨.g [.int .i64 (rangeF n n).lo, .int .i64 (rangeF n n).hi], by kernel_rfl, fun nV w' h => ⟨by rw [show pointF n = (rangeF n n) from rfl]; rfl, h.bel⟩⟩
def alikeF_c1 (l : List Int) (m : List Int) (k1 : Nat) : Unit → Bool := fun _ => decide ((k1 : Int) < (l.length : Int))
def alikeF_b1 (l : List Int) (m : List Int) (k1 : Nat) : Unit → Bd Unit Bool := fun _ => (bif (l.getD k1 0) != (m.getD k1 0) then .ret false else .go ())
def alikeF (l : List Int) (m : List Int) : Bool :=
 (bif (l.length : Int) != (m.length : Int) then false else (match loopR (alikeF_c1 l m) (alikeF_b1 l m) l.length 0 () with | .brk () => true | .ret r => r))
theorem alikeF_calls (g0 g1 : Value) (l : List Int) (m : List Int) (w : World) (r0 : Reads w g0 1 l encI 0) (r1 : Reads w g1 1 m encI 0)  : Calls Tryd.prog 27 #[g0, g1] w fun e w' => e = .returned (.bool (alikeF l m)) ∧ Below w.heap.size w w' := by
 refine CW tt_ok [g0, g1] 2 [.s (.ref 0), .s (.ref 1)] [(0, .sl .ro 3 1 l encI 0), (1, .sl .ro 3 1 m encI 0)] 2 Tryd.func27 rfl rfl rfl (by simp [r0.one, r1.one]) ⟨ro_in r0, ro_in r1, trivial⟩ ?_
 have hl0 := Reads.len r0
 have hl1 := Reads.len r1
 refine WSA tt_ok ?_
 refine WP_seq (WSA tt_ok ?_)
 refine WP_cond ((l.length : Int) != (m.length : Int)) (by kernel_rfl) (fun hc2 => ?_) (fun hc2 => ?_)
 ·have hc2' := hc2; try simp only [bfs, ne_eq] at hc2'
  refine WSA tt_ok ?_
  refine WP_ret ?_
  exact ⟨.s (.bool false), by kernel_rfl, fun nV w' h => ⟨by rw [show alikeF l m = false from by unfold alikeF; simp only [hc2, cond_true, cond_false]]; rfl, h.bel⟩⟩
 have hc2' := hc2; try simp only [bfs, ne_eq] at hc2'
 refine WP_skip ?_
 refine WP_seq (WSA tt_ok ?_)
 refine WP_loopA (ρ := Bool) (alikeF_c1 l m) (alikeF_b1 l m) l.length () (fun k : Nat => (k : Int)) (fun (ci : Int) (zz : Unit) => ⟨26, [(5, [], .s (.int .i64 ci)), (0, [], .s (.ref 0)), (1, [], .s (.ref 1))], [(0, .sl .ro 3 1 l encI 0), (1, .sl .ro 3 1 m encI 0)], 2, []⟩) (fun zz : Unit => ⟨26, [], [(0, .sl .ro 3 1 l encI 0), (1, .sl .ro 3 1 m encI 0)], 2, []⟩) (fun k zz => True) trivial ⟨0, rfl, Le_sel (ts := [5, 0, 1]) (ids := [0, 1]) (nx := 2) (by kernel_rfl)⟩ ?_ ?_
 ·intro k1 zz hn1 hp1 hi1 Q1 hq1 ho1
  refine WP_seq (WSA tt_ok ?_)
  refine WP_cond (decide ((k1 : Int) < (l.length : Int))) (by kernel_rfl) (fun hc3 => ?_) (fun hc3 => ?_)
  rotate_left
  ·refine WP_exit ?_
   show Q1 (.exit 0) _
   exact LA_exit hq1 () (loopR_end hi1 hc3) ⟨k1, hn1, hp1⟩ (Le_sel (ts := []) (ids := [0, 1]) (nx := 2) (by kernel_rfl))
  have hc3' := of_decide_eq_true hc3
  have hk1 : k1 < l.length := by omega
  refine WP_skip ?_
  refine WP_seq (WP_block ?_)
  refine WP_seq (WP_draw (by kernel_rfl) (by kernel_rfl) ?_)
  refine WPQ_run tt_ok 2 (by kernel_rfl) ?_
  refine QIX tt_ok (k1 : Int) l.length [] (by kernel_rfl) (fun hG => ⟨by omega, by omega⟩) ?_
  refine WPQ_run tt_ok 3 (by kernel_rfl) ?_
  refine QIX tt_ok (k1 : Int) m.length [] (by kernel_rfl) (fun hG => ⟨by omega, by omega⟩) ?_
  refine WPQ_all tt_ok (by kernel_rfl) ?_
  refine WP_cond ((l.getD k1 0) != (m.getD k1 0)) (by kernel_rfl) (fun hc5 => ?_) (fun hc5 => ?_)
  ·have hc5' := hc5; try simp only [bfs, ne_eq] at hc5'
   refine WSA tt_ok ?_
   refine WP_ret ?_
   show Q1 .ret _
   refine LA_ret hq1 ?_
   have he6 := loopR_ret (r := false) hi1 hk1 hc3 (by unfold alikeF_b1; simp only [hc5, cond_true, cond_false])
   exact ⟨.s (.bool false), by kernel_rfl, fun nV w' h => ⟨by rw [show alikeF l m = false from by unfold alikeF; simp only [hc2, he6, cond_true, cond_false]]; rfl, h.bel⟩⟩
  have hc5' := hc5; try simp only [bfs, ne_eq] at hc5'
  refine WP_skip ?_
  refine WRA tt_ok ?_
  show Q1 .normal _
  exact LA_go hq1 (ci := IntKind.i64.wrap ((k1 : Int) + 1)) () hk1 (by show _ = ((k1 + 1 : Nat) : Int); rw [wrapI (by omega) (by omega)]; omega) (loopR_go hi1 hk1 hc3 (by unfold alikeF_b1; simp only [hc5, cond_true, cond_false])) trivial (Le_sel (ts := [5, 0, 1]) (ids := [0, 1]) (nx := 2) (by kernel_rfl))
 intro zz hR1 hP1 s' hl
 refine WP_le hl ?_
 clear hl s'
 refine WSA tt_ok ?_
 refine WP_ret ?_
 exact ⟨.s (.bool true), by kernel_rfl, fun nV w' h => ⟨by rw [show alikeF l m = true from by unfold alikeF; simp only [hc2, hR1, cond_true, cond_false]]; rfl, h.bel⟩⟩
def modF (n : Int) (many : Int) : Int :=
 (bif decide (many ≤ 0) then 0 else (bif decide ((Int.tmod n many) < 0) then IntKind.i64.wrap ((Int.tmod n many) + many) else Int.tmod n many))
theorem modF_calls  (n : Int) (many : Int) (w : World)   : Calls Tryd.prog 15 #[iv n, iv many] w fun e w' => e = .returned (iv (modF n many)) ∧ Below w.heap.size w w' := by
 refine C0 tt_ok [.s (.int .i64 n), .s (.int .i64 many)] Tryd.func15 rfl rfl rfl ?_
 refine WSA tt_ok ?_
 refine WP_seq (WSA tt_ok ?_)
 refine WP_cond (decide (many ≤ 0)) (by kernel_rfl) (fun hc2 => ?_) (fun hc2 => ?_)
 ·have hc2' := of_decide_eq_true hc2
  refine WSA tt_ok ?_
  refine WP_ret ?_
  exact ⟨.s (.int .i64 0), by kernel_rfl, fun nV w' h => ⟨by rw [show modF n many = 0 from by unfold modF; simp only [hc2, cond_true, cond_false]]; rfl, h.bel⟩⟩
 have hc2' := of_decide_eq_false hc2
 refine WP_skip ?_
 refine WSR tt_ok 2 ?_
 refine BIN .rem 3 (.tmp 8) (.tmp 9) (.s (.int .i64 n)) (.s (.int .i64 many)) (.s (.int .i64 (Int.tmod n many))) [] (by kernel_rfl) (by kernel_rfl) (by kernel_rfl) (fun _ => BinOk_rem (by omega)) ?_
 refine WPA tt_ok ?_
 refine WP_seq (WSA tt_ok ?_)
 refine WP_cond (decide ((Int.tmod n many) < 0)) (by kernel_rfl) (fun hc4 => ?_) (fun hc4 => ?_)
 ·have hc4' := of_decide_eq_true hc4
  refine WSA tt_ok ?_
  refine WP_ret ?_
  exact ⟨.s (.int .i64 (IntKind.i64.wrap ((Int.tmod n many) + many))), by kernel_rfl, fun nV w' h => ⟨by rw [show modF n many = (IntKind.i64.wrap ((Int.tmod n many) + many)) from by unfold modF; simp only [hc2, hc4, cond_true, cond_false]]; rfl, h.bel⟩⟩
 have hc4' := of_decide_eq_false hc4
 refine WP_skip ?_
 refine WSA tt_ok ?_
 refine WP_ret ?_
 exact ⟨.s (.int .i64 (Int.tmod n many)), by kernel_rfl, fun nV w' h => ⟨by rw [show modF n many = (Int.tmod n many) from by unfold modF; simp only [hc2, hc4, cond_true, cond_false]]; rfl, h.bel⟩⟩
theorem mn_spec (x y : Int) : mn x y = min x y := by unfold mn; split <;> omega
theorem mx_spec (x y : Int) : mx x y = max x y := by unfold mx; split <;> omega
theorem modF_in (n many : Int) (h : 0 < many) (h2 : many ≤ 9223372036854775807) : 0 ≤ modF n many ∧ modF n many < many := by
 have h3 := Int.tmod_lt_of_pos n h
 have h4 := Int.lt_tmod_of_pos n h
 unfold modF
 rw [show decide (many ≤ 0) = false from decide_eq_false (by omega)]
 simp only [cond_false]
 by_cases h5 : Int.tmod n many < 0
 ·rw [decide_eq_true h5, cond_true, wrapI (by omega) (by omega)]; omega
 rw [decide_eq_false h5, cond_false]; omega
def tripL (load : Int) (ready : Int) : Trip :=
 (⟨load, ready⟩ : Trip)
theorem tripL_calls  (load : Int) (ready : Int) (w : World)   : Calls Tryd.prog 38 #[iv load, iv ready] w fun e w' => e = .returned (.agg #[iv (tripL load ready).load, iv (tripL load ready).ready]) ∧ Below w.heap.size w w' := by
 refine C0 tt_ok [.s (.int .i64 load), .s (.int .i64 ready)] Tryd.func38 rfl rfl rfl ?_
 refine WSA tt_ok ?_
 refine WSA tt_ok ?_
 refine WP_ret ?_
 exact ⟨.g [.int .i64 load, .int .i64 ready], by kernel_rfl, fun nV w' h => ⟨by rw [show tripL load ready = (⟨load, ready⟩ : Trip) from rfl]; rfl, h.bel⟩⟩
def tidesL  : LBook :=
 (⟨[(rangeF 10 12), (rangeF 14 15), (rangeF 18 20), (rangeF 16 17)], ((⟨(rangeF 2 3), 10, 19⟩ : LShore), (⟨(rangeF 4 5), 12, 20⟩ : LShore)), (rangeF 5 6), 10, 1, []⟩ : LBook)
theorem tidesL_calls   (w : World)   : Calls Tryd.prog 63 #[] w fun e w' => ∃ v0 v1, e = .returned (.agg ((lanV v0 tidesL [v1]).toArray)) ∧ Below w.heap.size w w' ∧ fineRs w.heap.size w' [⟨24, 2, _, tidesL.tides, encSpan, zSpan⟩, ⟨112, 3, _, tidesL.sounds, encSound, zSound⟩] [v0, v1] ∧ apartL [⟨24, 2, _, tidesL.tides, encSpan, zSpan⟩, ⟨112, 3, _, tidesL.sounds, encSound, zSound⟩] [v0, v1] := by
 refine C0 tt_ok [] Tryd.func63 rfl rfl rfl ?_
 refine WSA tt_ok ?_
 refine WP_seq (WP_region (CAL 66 [.s (.int .i64 10), .s (.int .i64 12)] (.g [.int .i64 (rangeF 10 12).lo, .int .i64 (rangeF 10 12).hi]) [] (fun hG nV w h => rangeF_calls  10 12 w  ) ?_))
 refine CAL 66 [.s (.int .i64 14), .s (.int .i64 15)] (.g [.int .i64 (rangeF 14 15).lo, .int .i64 (rangeF 14 15).hi]) [] (fun hG nV w h => rangeF_calls  14 15 w  ) ?_
 refine CAL 66 [.s (.int .i64 18), .s (.int .i64 20)] (.g [.int .i64 (rangeF 18 20).lo, .int .i64 (rangeF 18 20).hi]) [] (fun hG nV w h => rangeF_calls  18 20 w  ) ?_
 refine CAL 66 [.s (.int .i64 16), .s (.int .i64 17)] (.g [.int .i64 (rangeF 16 17).lo, .int .i64 (rangeF 16 17).hi]) [] (fun hG nV w h => rangeF_calls  16 17 w  ) ?_
 refine LIT tt_ok (by kernel_rfl) ?_
 refine LITSL 1 24 4 2 [.int .i64 (rangeF 10 12).lo, .int .i64 (rangeF 10 12).hi, .int .i64 (rangeF 14 15).lo, .int .i64 (rangeF 14 15).hi, .int .i64 (rangeF 18 20).lo, .int .i64 (rangeF 18 20).hi, .int .i64 (rangeF 16 17).lo, .int .i64 (rangeF 16 17).hi] [(rangeF 10 12), (rangeF 14 15), (rangeF 18 20), (rangeF 16 17)] encSpan zSpan (by kernel_rfl) rfl (fun _ => rfl) (fun n => rfl) ?_
 refine CAL 66 [.s (.int .i64 2), .s (.int .i64 3)] (.g [.int .i64 (rangeF 2 3).lo, .int .i64 (rangeF 2 3).hi]) [] (fun hG nV w h => rangeF_calls  2 3 w  ) ?_
 refine WPO_run tt_ok 1 (by kernel_rfl) ?_
 refine CAL 66 [.s (.int .i64 4), .s (.int .i64 5)] (.g [.int .i64 (rangeF 4 5).lo, .int .i64 (rangeF 4 5).hi]) [] (fun hG nV w h => rangeF_calls  4 5 w  ) ?_
 refine WPO_run tt_ok 2 (by kernel_rfl) ?_
 refine CAL 66 [.s (.int .i64 5), .s (.int .i64 6)] (.g [.int .i64 (rangeF 5 6).lo, .int .i64 (rangeF 5 6).hi]) [] (fun hG nV w h => rangeF_calls  5 6 w  ) ?_
 refine WPA tt_ok ?_
 refine WP_ret ?_
 exact ⟨.g [.ref 1, .int .i64 (rangeF 2 3).lo, .int .i64 (rangeF 2 3).hi, .int .i64 10, .int .i64 19, .int .i64 (rangeF 4 5).lo, .int .i64 (rangeF 4 5).hi, .int .i64 12, .int .i64 20, .int .i64 (rangeF 5 6).lo, .int .i64 (rangeF 5 6).hi, .int .i64 10, .int .i64 1, .v (.slice none 0 0)], by kernel_rfl, fun nV w' h => ⟨nV 1, .slice none 0 0, by rw [show tidesL = (⟨[(rangeF 10 12), (rangeF 14 15), (rangeF 18 20), (rangeF 16 17)], ((⟨(rangeF 2 3), 10, 19⟩ : LShore), (⟨(rangeF 4 5), 12, 20⟩ : LShore)), (rangeF 5 6), 10, 1, []⟩ : LBook) from rfl]; rfl, h.bel, by rw [show tidesL = (⟨[(rangeF 10 12), (rangeF 14 15), (rangeF 18 20), (rangeF 16 17)], ((⟨(rangeF 2 3), 10, 19⟩ : LShore), (⟨(rangeF 4 5), 12, 20⟩ : LShore)), (rangeF 5 6), 10, 1, []⟩ : LBook) from rfl]; exact ⟨own_lt (id := 1) (e := 24) (sz := 2) (li := ([(rangeF 10 12), (rangeF 14 15), (rangeF 18 20), (rangeF 16 17)])) (enc := encSpan) (z := zSpan) h (by kernel_rfl), ⟨reads_nil, fun g hg => by cases hg⟩, trivial⟩, by rw [show tidesL = (⟨[(rangeF 10 12), (rangeF 14 15), (rangeF 18 20), (rangeF 16 17)], ((⟨(rangeF 2 3), 10, 19⟩ : LShore), (⟨(rangeF 4 5), 12, 20⟩ : LShore)), (rangeF 5 6), 10, 1, []⟩ : LBook) from rfl]; exact ⟨⟨fun g _ _ h1 _ => (by cases h1), trivial⟩, trivial, trivial⟩⟩⟩
def shipsL  : Book :=
 (⟨[(⟨0, (rangeF 20 22), (pointF 2)⟩ : Ship), (⟨4, (rangeF 36 42), (rangeF 3 4)⟩ : Ship)], (rangeF 30 40), 1, 5, 2, []⟩ : Book)
theorem shipsL_calls   (w : World)   : Calls Tryd.prog 64 #[] w fun e w' => ∃ v0 v1, e = .returned (.agg #[v0, iv shipsL.hear.lo, iv shipsL.hear.hi, iv shipsL.br, iv shipsL.cr, iv shipsL.sl, v1]) ∧ Below w.heap.size w w' ∧ fineRs w.heap.size w' [⟨103, 5, _, shipsL.ships, encShip, zShip⟩, ⟨105, 4, _, shipsL.sights, encSight, zSight⟩] [v0, v1] ∧ apartL [⟨103, 5, _, shipsL.ships, encShip, zShip⟩, ⟨105, 4, _, shipsL.sights, encSight, zSight⟩] [v0, v1] := by
 refine C0 tt_ok [] Tryd.func64 rfl rfl rfl ?_
 refine WSA tt_ok ?_
 refine WP_seq (WP_region (CAL 66 [.s (.int .i64 20), .s (.int .i64 22)] (.g [.int .i64 (rangeF 20 22).lo, .int .i64 (rangeF 20 22).hi]) [] (fun hG nV w h => rangeF_calls  20 22 w  ) ?_))
 refine CAL 65 [.s (.int .i64 2)] (.g [.int .i64 (pointF 2).lo, .int .i64 (pointF 2).hi]) [] (fun hG nV w h => pointF_calls  2 w  ) ?_
 refine WPO_run tt_ok 1 (by kernel_rfl) ?_
 refine CAL 66 [.s (.int .i64 36), .s (.int .i64 42)] (.g [.int .i64 (rangeF 36 42).lo, .int .i64 (rangeF 36 42).hi]) [] (fun hG nV w h => rangeF_calls  36 42 w  ) ?_
 refine CAL 66 [.s (.int .i64 3), .s (.int .i64 4)] (.g [.int .i64 (rangeF 3 4).lo, .int .i64 (rangeF 3 4).hi]) [] (fun hG nV w h => rangeF_calls  3 4 w  ) ?_
 refine WPO_run tt_ok 1 (by kernel_rfl) ?_
 refine LIT tt_ok (by kernel_rfl) ?_
 refine LITSL 1 103 2 5 [.int .i64 0, .int .i64 (rangeF 20 22).lo, .int .i64 (rangeF 20 22).hi, .int .i64 (pointF 2).lo, .int .i64 (pointF 2).hi, .int .i64 4, .int .i64 (rangeF 36 42).lo, .int .i64 (rangeF 36 42).hi, .int .i64 (rangeF 3 4).lo, .int .i64 (rangeF 3 4).hi] [(⟨0, (rangeF 20 22), (pointF 2)⟩ : Ship), (⟨4, (rangeF 36 42), (rangeF 3 4)⟩ : Ship)] encShip zShip (by kernel_rfl) rfl (fun _ => rfl) (fun n => rfl) ?_
 refine CAL 66 [.s (.int .i64 30), .s (.int .i64 40)] (.g [.int .i64 (rangeF 30 40).lo, .int .i64 (rangeF 30 40).hi]) [] (fun hG nV w h => rangeF_calls  30 40 w  ) ?_
 refine WPA tt_ok ?_
 refine WP_ret ?_
 exact ⟨.g [.ref 1, .int .i64 (rangeF 30 40).lo, .int .i64 (rangeF 30 40).hi, .int .i64 1, .int .i64 5, .int .i64 2, .v (.slice none 0 0)], by kernel_rfl, fun nV w' h => ⟨nV 1, .slice none 0 0, by rw [show shipsL = (⟨[(⟨0, (rangeF 20 22), (pointF 2)⟩ : Ship), (⟨4, (rangeF 36 42), (rangeF 3 4)⟩ : Ship)], (rangeF 30 40), 1, 5, 2, []⟩ : Book) from rfl]; rfl, h.bel, by rw [show shipsL = (⟨[(⟨0, (rangeF 20 22), (pointF 2)⟩ : Ship), (⟨4, (rangeF 36 42), (rangeF 3 4)⟩ : Ship)], (rangeF 30 40), 1, 5, 2, []⟩ : Book) from rfl]; exact ⟨own_lt (id := 1) (e := 103) (sz := 5) (li := ([(⟨0, (rangeF 20 22), (pointF 2)⟩ : Ship), (⟨4, (rangeF 36 42), (rangeF 3 4)⟩ : Ship)])) (enc := encShip) (z := zShip) h (by kernel_rfl), ⟨reads_nil, fun g hg => by cases hg⟩, trivial⟩, by rw [show shipsL = (⟨[(⟨0, (rangeF 20 22), (pointF 2)⟩ : Ship), (⟨4, (rangeF 36 42), (rangeF 3 4)⟩ : Ship)], (rangeF 30 40), 1, 5, 2, []⟩ : Book) from rfl]; exact ⟨⟨fun g _ _ h1 _ => (by cases h1), trivial⟩, trivial, trivial⟩⟩⟩
def bookL (l : List Trip) : XBook :=
 (⟨tidesL, shipsL, 10, 0, 2, l⟩ : XBook)
theorem bookL_calls (g0 : Value) (l : List Trip) (w : World) (r0 : Reads w g0 2 l encTrip zTrip)  : Calls Tryd.prog 37 #[g0] w fun e w' => ∃ v0 v1 v2 v3, e = .returned (.agg ((xV v0 (bookL l) v1 v2 v3 g0).toArray)) ∧ Below w.heap.size w w' ∧ fineRs w.heap.size w' [⟨24, 2, _, (bookL l).lan.tides, encSpan, zSpan⟩, ⟨112, 3, _, (bookL l).lan.sounds, encSound, zSound⟩, ⟨103, 5, _, (bookL l).fw.ships, encShip, zShip⟩, ⟨105, 4, _, (bookL l).fw.sights, encSight, zSight⟩] [v0, v1, v2, v3] ∧ apartL [⟨24, 2, _, (bookL l).lan.tides, encSpan, zSpan⟩, ⟨112, 3, _, (bookL l).lan.sounds, encSound, zSound⟩, ⟨103, 5, _, (bookL l).fw.ships, encShip, zShip⟩, ⟨105, 4, _, (bookL l).fw.sights, encSight, zSight⟩] [v0, v1, v2, v3] := by
 refine CW tt_ok [g0] 1 [.s (.ref 0)] [(0, .sl .ro 60 2 l encTrip zTrip)] 1 Tryd.func37 rfl rfl rfl (by simp [r0.one]) ⟨ro_in r0, trivial⟩ ?_
 have hl0 := Reads.len r0
 refine WSA tt_ok ?_
 refine WP_seq (WP_region (CALLF2 63 [] (fun sv0_ sv1_ => .g (lanC (.v sv0_) tidesL [.v sv1_])) ⟨24, 2, _, tidesL.tides, encSpan, zSpan⟩ ⟨112, 3, _, tidesL.sounds, encSound, zSound⟩ (by kernel_rfl) (goes_of (by kernel_rfl)) (fun _ _ _ _ => (by kernel_rfl)) (fun _ _ _ _ => (by kernel_rfl)) (fun _ _ _ _ _ _ => rfl) ⟨⟨(Nat.le_of_ble_eq_true rfl), fun _ => rfl⟩, ⟨(Nat.le_of_ble_eq_true rfl), fun _ => rfl⟩, trivial⟩ (fun nV w h => tidesL_calls   w  ) (fun sA1 sc1 sA2 sc2 => ?_)))
 refine CALLF2 64 [] (fun sv0_ sv1_ => .g [.v sv0_, .int .i64 shipsL.hear.lo, .int .i64 shipsL.hear.hi, .int .i64 shipsL.br, .int .i64 shipsL.cr, .int .i64 shipsL.sl, .v sv1_]) ⟨103, 5, _, shipsL.ships, encShip, zShip⟩ ⟨105, 4, _, shipsL.sights, encSight, zSight⟩ (by kernel_rfl) (goes_of (by kernel_rfl)) (fun _ _ _ _ => (by kernel_rfl)) (fun _ _ _ _ => (by kernel_rfl)) (fun _ _ _ _ _ _ => rfl) ⟨⟨(Nat.le_of_ble_eq_true rfl), fun _ => rfl⟩, ⟨(Nat.le_of_ble_eq_true rfl), fun _ => rfl⟩, trivial⟩ (fun nV w h => shipsL_calls   w  ) (fun sA3 sc3 sA4 sc4 => ?_)
 refine WPA tt_ok ?_
 refine WP_ret ?_
 exact ⟨.g (lanC (.v (.slice sA1 tidesL.tides.length sc1)) tidesL [.v (.slice sA2 tidesL.sounds.length sc2), .v (.slice sA3 shipsL.ships.length sc3), .int .i64 shipsL.hear.lo, .int .i64 shipsL.hear.hi, .int .i64 shipsL.br, .int .i64 shipsL.cr, .int .i64 shipsL.sl, .v (.slice sA4 shipsL.sights.length sc4), .int .i64 10, .int .i64 0, .int .i64 2, .ref 0]), by kernel_rfl, fun nV w' h => ⟨(.slice sA1 tidesL.tides.length sc1), (.slice sA2 tidesL.sounds.length sc2), (.slice sA3 shipsL.ships.length sc3), (.slice sA4 shipsL.sights.length sc4), by have e0 : nV 0 = g0 := h.ini 0 (by show 0 < 1; decide); rw [show bookL l = (⟨tidesL, shipsL, 10, 0, 2, l⟩ : XBook) from rfl, ← e0]; rfl, h.bel, by rw [show bookL l = (⟨tidesL, shipsL, 10, 0, 2, l⟩ : XBook) from rfl]; exact ⟨slF_lt (id := 2) (v := (.slice sA1 tidesL.tides.length sc1)) (sz := 2) (li := tidesL.tides) (enc := encSpan) (z := zSpan) h (by kernel_rfl), slF_lt (id := 3) (v := (.slice sA2 tidesL.sounds.length sc2)) (sz := 3) (li := tidesL.sounds) (enc := encSound) (z := zSound) h (by kernel_rfl), slF_lt (id := 4) (v := (.slice sA3 shipsL.ships.length sc3)) (sz := 5) (li := shipsL.ships) (enc := encShip) (z := zShip) h (by kernel_rfl), slF_lt (id := 5) (v := (.slice sA4 shipsL.sights.length sc4)) (sz := 4) (li := shipsL.sights) (enc := encSight) (z := zSight) h (by kernel_rfl), trivial⟩, by rw [show bookL l = (⟨tidesL, shipsL, 10, 0, 2, l⟩ : XBook) from rfl]; exact ⟨⟨fun g h1 h2 h3 h4 => own_apart h (i := 2) (j := 3) (x := slF (.slice sA1 tidesL.tides.length sc1) 2 tidesL.tides encSpan zSpan) (y := slF (.slice sA2 tidesL.sounds.length sc2) 3 tidesL.sounds encSound zSound) (by kernel_rfl) (by kernel_rfl) (by decide) rfl g ⟨h1, h2⟩ ⟨h3, h4⟩, fun g h1 h2 h3 h4 => own_apart h (i := 2) (j := 4) (x := slF (.slice sA1 tidesL.tides.length sc1) 2 tidesL.tides encSpan zSpan) (y := slF (.slice sA3 shipsL.ships.length sc3) 5 shipsL.ships encShip zShip) (by kernel_rfl) (by kernel_rfl) (by decide) rfl g ⟨h1, h2⟩ ⟨h3, h4⟩, fun g h1 h2 h3 h4 => own_apart h (i := 2) (j := 5) (x := slF (.slice sA1 tidesL.tides.length sc1) 2 tidesL.tides encSpan zSpan) (y := slF (.slice sA4 shipsL.sights.length sc4) 4 shipsL.sights encSight zSight) (by kernel_rfl) (by kernel_rfl) (by decide) rfl g ⟨h1, h2⟩ ⟨h3, h4⟩, trivial⟩, ⟨fun g h1 h2 h3 h4 => own_apart h (i := 3) (j := 4) (x := slF (.slice sA2 tidesL.sounds.length sc2) 3 tidesL.sounds encSound zSound) (y := slF (.slice sA3 shipsL.ships.length sc3) 5 shipsL.ships encShip zShip) (by kernel_rfl) (by kernel_rfl) (by decide) rfl g ⟨h1, h2⟩ ⟨h3, h4⟩, fun g h1 h2 h3 h4 => own_apart h (i := 3) (j := 5) (x := slF (.slice sA2 tidesL.sounds.length sc2) 3 tidesL.sounds encSound zSound) (y := slF (.slice sA4 shipsL.sights.length sc4) 4 shipsL.sights encSight zSight) (by kernel_rfl) (by kernel_rfl) (by decide) rfl g ⟨h1, h2⟩ ⟨h3, h4⟩, trivial⟩, ⟨fun g h1 h2 h3 h4 => own_apart h (i := 4) (j := 5) (x := slF (.slice sA3 shipsL.ships.length sc3) 5 shipsL.ships encShip zShip) (y := slF (.slice sA4 shipsL.sights.length sc4) 4 shipsL.sights encSight zSight) (by kernel_rfl) (by kernel_rfl) (by decide) rfl g ⟨h1, h2⟩ ⟨h3, h4⟩, trivial⟩, trivial, trivial⟩⟩⟩
abbrev bk0 : XBook := bookL ([(tripL 20 0), (tripL 20 0), (tripL 0 30)])
abbrev bk1 : XBook := bookL ([(tripL 20 0)])
abbrev bk2 : XBook := bookL ([(tripL 20 0), (tripL 20 0), (tripL 60 30)])
def ownL  : XBook :=
 (⟨bk0.lan, bk0.fw, bk0.each, bk0.shore, bk0.turn, [(tripL 20 0), (tripL 20 0), (tripL 0 30)]⟩ : XBook)
theorem ownL_calls   (w : World)   : Calls Tryd.prog 36 #[] w fun e w' => ∃ v0 v1 v2 v3 v4, e = .returned (.agg ((xV v0 ownL v1 v2 v3 v4).toArray)) ∧ Below w.heap.size w w' ∧ fineRs w.heap.size w' [⟨24, 2, _, ownL.lan.tides, encSpan, zSpan⟩, ⟨112, 3, _, ownL.lan.sounds, encSound, zSound⟩, ⟨103, 5, _, ownL.fw.ships, encShip, zShip⟩, ⟨105, 4, _, ownL.fw.sights, encSight, zSight⟩, ⟨60, 2, _, ownL.trips, encTrip, zTrip⟩] [v0, v1, v2, v3, v4] ∧ apartL [⟨24, 2, _, ownL.lan.tides, encSpan, zSpan⟩, ⟨112, 3, _, ownL.lan.sounds, encSound, zSound⟩, ⟨103, 5, _, ownL.fw.ships, encShip, zShip⟩, ⟨105, 4, _, ownL.fw.sights, encSight, zSight⟩, ⟨60, 2, _, ownL.trips, encTrip, zTrip⟩] [v0, v1, v2, v3, v4] := by
 refine C0 tt_ok [] Tryd.func36 rfl rfl rfl ?_
 refine WSA tt_ok ?_
 refine WP_seq (WP_region (CAL 38 [.s (.int .i64 20), .s (.int .i64 0)] (.g [.int .i64 (tripL 20 0).load, .int .i64 (tripL 20 0).ready]) [] (fun hG nV w h => tripL_calls  20 0 w  ) ?_))
 refine CAL 38 [.s (.int .i64 20), .s (.int .i64 0)] (.g [.int .i64 (tripL 20 0).load, .int .i64 (tripL 20 0).ready]) [] (fun hG nV w h => tripL_calls  20 0 w  ) ?_
 refine CAL 38 [.s (.int .i64 0), .s (.int .i64 30)] (.g [.int .i64 (tripL 0 30).load, .int .i64 (tripL 0 30).ready]) [] (fun hG nV w h => tripL_calls  0 30 w  ) ?_
 refine LIT tt_ok (by kernel_rfl) ?_
 refine LITSL 1 60 3 2 [.int .i64 (tripL 20 0).load, .int .i64 (tripL 20 0).ready, .int .i64 (tripL 20 0).load, .int .i64 (tripL 20 0).ready, .int .i64 (tripL 0 30).load, .int .i64 (tripL 0 30).ready] [(tripL 20 0), (tripL 20 0), (tripL 0 30)] encTrip zTrip (by kernel_rfl) rfl (fun _ => rfl) (fun n => rfl) ?_
 refine CALLG4 37 [.s (.ref 1)] (fun sv0_ sv1_ sv2_ sv3_ => .g (xD (.v sv0_) bk0 (.v sv1_) (.v sv2_) (.v sv3_) (.ref 1))) ⟨24, 2, _, bk0.lan.tides, encSpan, zSpan⟩ ⟨112, 3, _, bk0.lan.sounds, encSound, zSound⟩ ⟨103, 5, _, bk0.fw.ships, encShip, zShip⟩ ⟨105, 4, _, bk0.fw.sights, encSight, zSight⟩ (by kernel_rfl) (goes_of (by kernel_rfl)) (fun _ _ _ _ _ _ _ _ => (by kernel_rfl)) (fun _ _ _ _ _ _ _ _ => (by kernel_rfl)) (fun _ _ _ _ _ _ _ _ n n1 h => (AV.c_congr (okB_sound (by kernel_rfl)) h).symm) ⟨⟨(Nat.le_of_ble_eq_true rfl), fun _ => rfl⟩, ⟨(Nat.le_of_ble_eq_true rfl), fun _ => rfl⟩, ⟨(Nat.le_of_ble_eq_true rfl), fun _ => rfl⟩, ⟨(Nat.le_of_ble_eq_true rfl), fun _ => rfl⟩, trivial⟩ (fun nV w h => bookL_calls (nV 1) ([(tripL 20 0), (tripL 20 0), (tripL 0 30)]) w (h.reads (id := 1) (kd := .own) (e := 60) (by kernel_rfl)) ) (fun sA1 sc1 sA2 sc2 sA3 sc3 sA4 sc4 => ?_)
 refine WPA tt_ok ?_
 refine WP_ret ?_
 exact ⟨.g (xD (.v (.slice sA1 bk0.lan.tides.length sc1)) bk0 (.v (.slice sA2 bk0.lan.sounds.length sc2)) (.v (.slice sA3 bk0.fw.ships.length sc3)) (.v (.slice sA4 bk0.fw.sights.length sc4)) (.ref 1)), by kernel_rfl, fun nV w' h => ⟨(.slice sA1 bk0.lan.tides.length sc1), (.slice sA2 bk0.lan.sounds.length sc2), (.slice sA3 bk0.fw.ships.length sc3), (.slice sA4 bk0.fw.sights.length sc4), nV 1, by rw [show ownL = (⟨bk0.lan, bk0.fw, bk0.each, bk0.shore, bk0.turn, [(tripL 20 0), (tripL 20 0), (tripL 0 30)]⟩ : XBook) from rfl]; rfl, h.bel, by rw [show ownL = (⟨bk0.lan, bk0.fw, bk0.each, bk0.shore, bk0.turn, [(tripL 20 0), (tripL 20 0), (tripL 0 30)]⟩ : XBook) from rfl]; exact ⟨slF_lt (id := 2) (v := (.slice sA1 bk0.lan.tides.length sc1)) (sz := 2) (li := bk0.lan.tides) (enc := encSpan) (z := zSpan) h (by kernel_rfl), slF_lt (id := 3) (v := (.slice sA2 bk0.lan.sounds.length sc2)) (sz := 3) (li := bk0.lan.sounds) (enc := encSound) (z := zSound) h (by kernel_rfl), slF_lt (id := 4) (v := (.slice sA3 bk0.fw.ships.length sc3)) (sz := 5) (li := bk0.fw.ships) (enc := encShip) (z := zShip) h (by kernel_rfl), slF_lt (id := 5) (v := (.slice sA4 bk0.fw.sights.length sc4)) (sz := 4) (li := bk0.fw.sights) (enc := encSight) (z := zSight) h (by kernel_rfl), own_lt (id := 1) (e := 60) (sz := 2) (li := ([(tripL 20 0), (tripL 20 0), (tripL 0 30)])) (enc := encTrip) (z := zTrip) h (by kernel_rfl), trivial⟩, by rw [show ownL = (⟨bk0.lan, bk0.fw, bk0.each, bk0.shore, bk0.turn, [(tripL 20 0), (tripL 20 0), (tripL 0 30)]⟩ : XBook) from rfl]; exact ⟨⟨fun g h1 h2 h3 h4 => own_apart h (i := 2) (j := 3) (x := slF (.slice sA1 bk0.lan.tides.length sc1) 2 bk0.lan.tides encSpan zSpan) (y := slF (.slice sA2 bk0.lan.sounds.length sc2) 3 bk0.lan.sounds encSound zSound) (by kernel_rfl) (by kernel_rfl) (by decide) rfl g ⟨h1, h2⟩ ⟨h3, h4⟩, fun g h1 h2 h3 h4 => own_apart h (i := 2) (j := 4) (x := slF (.slice sA1 bk0.lan.tides.length sc1) 2 bk0.lan.tides encSpan zSpan) (y := slF (.slice sA3 bk0.fw.ships.length sc3) 5 bk0.fw.ships encShip zShip) (by kernel_rfl) (by kernel_rfl) (by decide) rfl g ⟨h1, h2⟩ ⟨h3, h4⟩, fun g h1 h2 h3 h4 => own_apart h (i := 2) (j := 5) (x := slF (.slice sA1 bk0.lan.tides.length sc1) 2 bk0.lan.tides encSpan zSpan) (y := slF (.slice sA4 bk0.fw.sights.length sc4) 4 bk0.fw.sights encSight zSight) (by kernel_rfl) (by kernel_rfl) (by decide) rfl g ⟨h1, h2⟩ ⟨h3, h4⟩, fun g h1 h2 h3 h4 => own_apart h (i := 2) (j := 1) (x := slF (.slice sA1 bk0.lan.tides.length sc1) 2 bk0.lan.tides encSpan zSpan) (y := .sl .own 60 2 ([(tripL 20 0), (tripL 20 0), (tripL 0 30)]) encTrip zTrip) (by kernel_rfl) (by kernel_rfl) (by decide) rfl g ⟨h1, h2⟩ h3, trivial⟩, ⟨fun g h1 h2 h3 h4 => own_apart h (i := 3) (j := 4) (x := slF (.slice sA2 bk0.lan.sounds.length sc2) 3 bk0.lan.sounds encSound zSound) (y := slF (.slice sA3 bk0.fw.ships.length sc3) 5 bk0.fw.ships encShip zShip) (by kernel_rfl) (by kernel_rfl) (by decide) rfl g ⟨h1, h2⟩ ⟨h3, h4⟩, fun g h1 h2 h3 h4 => own_apart h (i := 3) (j := 5) (x := slF (.slice sA2 bk0.lan.sounds.length sc2) 3 bk0.lan.sounds encSound zSound) (y := slF (.slice sA4 bk0.fw.sights.length sc4) 4 bk0.fw.sights encSight zSight) (by kernel_rfl) (by kernel_rfl) (by decide) rfl g ⟨h1, h2⟩ ⟨h3, h4⟩, fun g h1 h2 h3 h4 => own_apart h (i := 3) (j := 1) (x := slF (.slice sA2 bk0.lan.sounds.length sc2) 3 bk0.lan.sounds encSound zSound) (y := .sl .own 60 2 ([(tripL 20 0), (tripL 20 0), (tripL 0 30)]) encTrip zTrip) (by kernel_rfl) (by kernel_rfl) (by decide) rfl g ⟨h1, h2⟩ h3, trivial⟩, ⟨fun g h1 h2 h3 h4 => own_apart h (i := 4) (j := 5) (x := slF (.slice sA3 bk0.fw.ships.length sc3) 5 bk0.fw.ships encShip zShip) (y := slF (.slice sA4 bk0.fw.sights.length sc4) 4 bk0.fw.sights encSight zSight) (by kernel_rfl) (by kernel_rfl) (by decide) rfl g ⟨h1, h2⟩ ⟨h3, h4⟩, fun g h1 h2 h3 h4 => own_apart h (i := 4) (j := 1) (x := slF (.slice sA3 bk0.fw.ships.length sc3) 5 bk0.fw.ships encShip zShip) (y := .sl .own 60 2 ([(tripL 20 0), (tripL 20 0), (tripL 0 30)]) encTrip zTrip) (by kernel_rfl) (by kernel_rfl) (by decide) rfl g ⟨h1, h2⟩ h3, trivial⟩, ⟨fun g h1 h2 h3 h4 => own_apart h (i := 5) (j := 1) (x := slF (.slice sA4 bk0.fw.sights.length sc4) 4 bk0.fw.sights encSight zSight) (y := .sl .own 60 2 ([(tripL 20 0), (tripL 20 0), (tripL 0 30)]) encTrip zTrip) (by kernel_rfl) (by kernel_rfl) (by decide) rfl g ⟨h1, h2⟩ h3, trivial⟩, trivial, trivial⟩⟩⟩
def singleL  : XBook :=
 (⟨bk1.lan, bk1.fw, bk1.each, bk1.shore, bk1.turn, [(tripL 20 0)]⟩ : XBook)
theorem singleL_calls   (w : World)   : Calls Tryd.prog 42 #[] w fun e w' => ∃ v0 v1 v2 v3 v4, e = .returned (.agg ((xV v0 singleL v1 v2 v3 v4).toArray)) ∧ Below w.heap.size w w' ∧ fineRs w.heap.size w' [⟨24, 2, _, singleL.lan.tides, encSpan, zSpan⟩, ⟨112, 3, _, singleL.lan.sounds, encSound, zSound⟩, ⟨103, 5, _, singleL.fw.ships, encShip, zShip⟩, ⟨105, 4, _, singleL.fw.sights, encSight, zSight⟩, ⟨60, 2, _, singleL.trips, encTrip, zTrip⟩] [v0, v1, v2, v3, v4] ∧ apartL [⟨24, 2, _, singleL.lan.tides, encSpan, zSpan⟩, ⟨112, 3, _, singleL.lan.sounds, encSound, zSound⟩, ⟨103, 5, _, singleL.fw.ships, encShip, zShip⟩, ⟨105, 4, _, singleL.fw.sights, encSight, zSight⟩, ⟨60, 2, _, singleL.trips, encTrip, zTrip⟩] [v0, v1, v2, v3, v4] := by
 refine C0 tt_ok [] Tryd.func42 rfl rfl rfl ?_
 refine WSA tt_ok ?_
 refine WP_seq (WP_region (CAL 38 [.s (.int .i64 20), .s (.int .i64 0)] (.g [.int .i64 (tripL 20 0).load, .int .i64 (tripL 20 0).ready]) [] (fun hG nV w h => tripL_calls  20 0 w  ) ?_))
 refine LIT tt_ok (by kernel_rfl) ?_
 refine LITSL 1 60 1 2 [.int .i64 (tripL 20 0).load, .int .i64 (tripL 20 0).ready] [(tripL 20 0)] encTrip zTrip (by kernel_rfl) rfl (fun _ => rfl) (fun n => rfl) ?_
 refine CALLG4 37 [.s (.ref 1)] (fun sv0_ sv1_ sv2_ sv3_ => .g (xD (.v sv0_) bk1 (.v sv1_) (.v sv2_) (.v sv3_) (.ref 1))) ⟨24, 2, _, bk1.lan.tides, encSpan, zSpan⟩ ⟨112, 3, _, bk1.lan.sounds, encSound, zSound⟩ ⟨103, 5, _, bk1.fw.ships, encShip, zShip⟩ ⟨105, 4, _, bk1.fw.sights, encSight, zSight⟩ (by kernel_rfl) (goes_of (by kernel_rfl)) (fun _ _ _ _ _ _ _ _ => (by kernel_rfl)) (fun _ _ _ _ _ _ _ _ => (by kernel_rfl)) (fun _ _ _ _ _ _ _ _ n n1 h => (AV.c_congr (okB_sound (by kernel_rfl)) h).symm) ⟨⟨(Nat.le_of_ble_eq_true rfl), fun _ => rfl⟩, ⟨(Nat.le_of_ble_eq_true rfl), fun _ => rfl⟩, ⟨(Nat.le_of_ble_eq_true rfl), fun _ => rfl⟩, ⟨(Nat.le_of_ble_eq_true rfl), fun _ => rfl⟩, trivial⟩ (fun nV w h => bookL_calls (nV 1) ([(tripL 20 0)]) w (h.reads (id := 1) (kd := .own) (e := 60) (by kernel_rfl)) ) (fun sA1 sc1 sA2 sc2 sA3 sc3 sA4 sc4 => ?_)
 refine WPA tt_ok ?_
 refine WP_ret ?_
 exact ⟨.g (xD (.v (.slice sA1 bk1.lan.tides.length sc1)) bk1 (.v (.slice sA2 bk1.lan.sounds.length sc2)) (.v (.slice sA3 bk1.fw.ships.length sc3)) (.v (.slice sA4 bk1.fw.sights.length sc4)) (.ref 1)), by kernel_rfl, fun nV w' h => ⟨(.slice sA1 bk1.lan.tides.length sc1), (.slice sA2 bk1.lan.sounds.length sc2), (.slice sA3 bk1.fw.ships.length sc3), (.slice sA4 bk1.fw.sights.length sc4), nV 1, by rw [show singleL = (⟨bk1.lan, bk1.fw, bk1.each, bk1.shore, bk1.turn, [(tripL 20 0)]⟩ : XBook) from rfl]; rfl, h.bel, by rw [show singleL = (⟨bk1.lan, bk1.fw, bk1.each, bk1.shore, bk1.turn, [(tripL 20 0)]⟩ : XBook) from rfl]; exact ⟨slF_lt (id := 2) (v := (.slice sA1 bk1.lan.tides.length sc1)) (sz := 2) (li := bk1.lan.tides) (enc := encSpan) (z := zSpan) h (by kernel_rfl), slF_lt (id := 3) (v := (.slice sA2 bk1.lan.sounds.length sc2)) (sz := 3) (li := bk1.lan.sounds) (enc := encSound) (z := zSound) h (by kernel_rfl), slF_lt (id := 4) (v := (.slice sA3 bk1.fw.ships.length sc3)) (sz := 5) (li := bk1.fw.ships) (enc := encShip) (z := zShip) h (by kernel_rfl), slF_lt (id := 5) (v := (.slice sA4 bk1.fw.sights.length sc4)) (sz := 4) (li := bk1.fw.sights) (enc := encSight) (z := zSight) h (by kernel_rfl), own_lt (id := 1) (e := 60) (sz := 2) (li := ([(tripL 20 0)])) (enc := encTrip) (z := zTrip) h (by kernel_rfl), trivial⟩, by rw [show singleL = (⟨bk1.lan, bk1.fw, bk1.each, bk1.shore, bk1.turn, [(tripL 20 0)]⟩ : XBook) from rfl]; exact ⟨⟨fun g h1 h2 h3 h4 => own_apart h (i := 2) (j := 3) (x := slF (.slice sA1 bk1.lan.tides.length sc1) 2 bk1.lan.tides encSpan zSpan) (y := slF (.slice sA2 bk1.lan.sounds.length sc2) 3 bk1.lan.sounds encSound zSound) (by kernel_rfl) (by kernel_rfl) (by decide) rfl g ⟨h1, h2⟩ ⟨h3, h4⟩, fun g h1 h2 h3 h4 => own_apart h (i := 2) (j := 4) (x := slF (.slice sA1 bk1.lan.tides.length sc1) 2 bk1.lan.tides encSpan zSpan) (y := slF (.slice sA3 bk1.fw.ships.length sc3) 5 bk1.fw.ships encShip zShip) (by kernel_rfl) (by kernel_rfl) (by decide) rfl g ⟨h1, h2⟩ ⟨h3, h4⟩, fun g h1 h2 h3 h4 => own_apart h (i := 2) (j := 5) (x := slF (.slice sA1 bk1.lan.tides.length sc1) 2 bk1.lan.tides encSpan zSpan) (y := slF (.slice sA4 bk1.fw.sights.length sc4) 4 bk1.fw.sights encSight zSight) (by kernel_rfl) (by kernel_rfl) (by decide) rfl g ⟨h1, h2⟩ ⟨h3, h4⟩, fun g h1 h2 h3 h4 => own_apart h (i := 2) (j := 1) (x := slF (.slice sA1 bk1.lan.tides.length sc1) 2 bk1.lan.tides encSpan zSpan) (y := .sl .own 60 2 ([(tripL 20 0)]) encTrip zTrip) (by kernel_rfl) (by kernel_rfl) (by decide) rfl g ⟨h1, h2⟩ h3, trivial⟩, ⟨fun g h1 h2 h3 h4 => own_apart h (i := 3) (j := 4) (x := slF (.slice sA2 bk1.lan.sounds.length sc2) 3 bk1.lan.sounds encSound zSound) (y := slF (.slice sA3 bk1.fw.ships.length sc3) 5 bk1.fw.ships encShip zShip) (by kernel_rfl) (by kernel_rfl) (by decide) rfl g ⟨h1, h2⟩ ⟨h3, h4⟩, fun g h1 h2 h3 h4 => own_apart h (i := 3) (j := 5) (x := slF (.slice sA2 bk1.lan.sounds.length sc2) 3 bk1.lan.sounds encSound zSound) (y := slF (.slice sA4 bk1.fw.sights.length sc4) 4 bk1.fw.sights encSight zSight) (by kernel_rfl) (by kernel_rfl) (by decide) rfl g ⟨h1, h2⟩ ⟨h3, h4⟩, fun g h1 h2 h3 h4 => own_apart h (i := 3) (j := 1) (x := slF (.slice sA2 bk1.lan.sounds.length sc2) 3 bk1.lan.sounds encSound zSound) (y := .sl .own 60 2 ([(tripL 20 0)]) encTrip zTrip) (by kernel_rfl) (by kernel_rfl) (by decide) rfl g ⟨h1, h2⟩ h3, trivial⟩, ⟨fun g h1 h2 h3 h4 => own_apart h (i := 4) (j := 5) (x := slF (.slice sA3 bk1.fw.ships.length sc3) 5 bk1.fw.ships encShip zShip) (y := slF (.slice sA4 bk1.fw.sights.length sc4) 4 bk1.fw.sights encSight zSight) (by kernel_rfl) (by kernel_rfl) (by decide) rfl g ⟨h1, h2⟩ ⟨h3, h4⟩, fun g h1 h2 h3 h4 => own_apart h (i := 4) (j := 1) (x := slF (.slice sA3 bk1.fw.ships.length sc3) 5 bk1.fw.ships encShip zShip) (y := .sl .own 60 2 ([(tripL 20 0)]) encTrip zTrip) (by kernel_rfl) (by kernel_rfl) (by decide) rfl g ⟨h1, h2⟩ h3, trivial⟩, ⟨fun g h1 h2 h3 h4 => own_apart h (i := 5) (j := 1) (x := slF (.slice sA4 bk1.fw.sights.length sc4) 4 bk1.fw.sights encSight zSight) (y := .sl .own 60 2 ([(tripL 20 0)]) encTrip zTrip) (by kernel_rfl) (by kernel_rfl) (by decide) rfl g ⟨h1, h2⟩ h3, trivial⟩, trivial, trivial⟩⟩⟩
def heavyL  : XBook :=
 (⟨bk2.lan, bk2.fw, bk2.each, bk2.shore, bk2.turn, [(tripL 20 0), (tripL 20 0), (tripL 60 30)]⟩ : XBook)
theorem heavyL_calls   (w : World)   : Calls Tryd.prog 41 #[] w fun e w' => ∃ v0 v1 v2 v3 v4, e = .returned (.agg ((xV v0 heavyL v1 v2 v3 v4).toArray)) ∧ Below w.heap.size w w' ∧ fineRs w.heap.size w' [⟨24, 2, _, heavyL.lan.tides, encSpan, zSpan⟩, ⟨112, 3, _, heavyL.lan.sounds, encSound, zSound⟩, ⟨103, 5, _, heavyL.fw.ships, encShip, zShip⟩, ⟨105, 4, _, heavyL.fw.sights, encSight, zSight⟩, ⟨60, 2, _, heavyL.trips, encTrip, zTrip⟩] [v0, v1, v2, v3, v4] ∧ apartL [⟨24, 2, _, heavyL.lan.tides, encSpan, zSpan⟩, ⟨112, 3, _, heavyL.lan.sounds, encSound, zSound⟩, ⟨103, 5, _, heavyL.fw.ships, encShip, zShip⟩, ⟨105, 4, _, heavyL.fw.sights, encSight, zSight⟩, ⟨60, 2, _, heavyL.trips, encTrip, zTrip⟩] [v0, v1, v2, v3, v4] := by
 refine C0 tt_ok [] Tryd.func41 rfl rfl rfl ?_
 refine WSA tt_ok ?_
 refine WP_seq (WP_region (CAL 38 [.s (.int .i64 20), .s (.int .i64 0)] (.g [.int .i64 (tripL 20 0).load, .int .i64 (tripL 20 0).ready]) [] (fun hG nV w h => tripL_calls  20 0 w  ) ?_))
 refine CAL 38 [.s (.int .i64 20), .s (.int .i64 0)] (.g [.int .i64 (tripL 20 0).load, .int .i64 (tripL 20 0).ready]) [] (fun hG nV w h => tripL_calls  20 0 w  ) ?_
 refine CAL 38 [.s (.int .i64 60), .s (.int .i64 30)] (.g [.int .i64 (tripL 60 30).load, .int .i64 (tripL 60 30).ready]) [] (fun hG nV w h => tripL_calls  60 30 w  ) ?_
 refine LIT tt_ok (by kernel_rfl) ?_
 refine LITSL 1 60 3 2 [.int .i64 (tripL 20 0).load, .int .i64 (tripL 20 0).ready, .int .i64 (tripL 20 0).load, .int .i64 (tripL 20 0).ready, .int .i64 (tripL 60 30).load, .int .i64 (tripL 60 30).ready] [(tripL 20 0), (tripL 20 0), (tripL 60 30)] encTrip zTrip (by kernel_rfl) rfl (fun _ => rfl) (fun n => rfl) ?_
 refine CALLG4 37 [.s (.ref 1)] (fun sv0_ sv1_ sv2_ sv3_ => .g (xD (.v sv0_) bk2 (.v sv1_) (.v sv2_) (.v sv3_) (.ref 1))) ⟨24, 2, _, bk2.lan.tides, encSpan, zSpan⟩ ⟨112, 3, _, bk2.lan.sounds, encSound, zSound⟩ ⟨103, 5, _, bk2.fw.ships, encShip, zShip⟩ ⟨105, 4, _, bk2.fw.sights, encSight, zSight⟩ (by kernel_rfl) (goes_of (by kernel_rfl)) (fun _ _ _ _ _ _ _ _ => (by kernel_rfl)) (fun _ _ _ _ _ _ _ _ => (by kernel_rfl)) (fun _ _ _ _ _ _ _ _ n n1 h => (AV.c_congr (okB_sound (by kernel_rfl)) h).symm) ⟨⟨(Nat.le_of_ble_eq_true rfl), fun _ => rfl⟩, ⟨(Nat.le_of_ble_eq_true rfl), fun _ => rfl⟩, ⟨(Nat.le_of_ble_eq_true rfl), fun _ => rfl⟩, ⟨(Nat.le_of_ble_eq_true rfl), fun _ => rfl⟩, trivial⟩ (fun nV w h => bookL_calls (nV 1) ([(tripL 20 0), (tripL 20 0), (tripL 60 30)]) w (h.reads (id := 1) (kd := .own) (e := 60) (by kernel_rfl)) ) (fun sA1 sc1 sA2 sc2 sA3 sc3 sA4 sc4 => ?_)
 refine WPA tt_ok ?_
 refine WP_ret ?_
 exact ⟨.g (xD (.v (.slice sA1 bk2.lan.tides.length sc1)) bk2 (.v (.slice sA2 bk2.lan.sounds.length sc2)) (.v (.slice sA3 bk2.fw.ships.length sc3)) (.v (.slice sA4 bk2.fw.sights.length sc4)) (.ref 1)), by kernel_rfl, fun nV w' h => ⟨(.slice sA1 bk2.lan.tides.length sc1), (.slice sA2 bk2.lan.sounds.length sc2), (.slice sA3 bk2.fw.ships.length sc3), (.slice sA4 bk2.fw.sights.length sc4), nV 1, by rw [show heavyL = (⟨bk2.lan, bk2.fw, bk2.each, bk2.shore, bk2.turn, [(tripL 20 0), (tripL 20 0), (tripL 60 30)]⟩ : XBook) from rfl]; rfl, h.bel, by rw [show heavyL = (⟨bk2.lan, bk2.fw, bk2.each, bk2.shore, bk2.turn, [(tripL 20 0), (tripL 20 0), (tripL 60 30)]⟩ : XBook) from rfl]; exact ⟨slF_lt (id := 2) (v := (.slice sA1 bk2.lan.tides.length sc1)) (sz := 2) (li := bk2.lan.tides) (enc := encSpan) (z := zSpan) h (by kernel_rfl), slF_lt (id := 3) (v := (.slice sA2 bk2.lan.sounds.length sc2)) (sz := 3) (li := bk2.lan.sounds) (enc := encSound) (z := zSound) h (by kernel_rfl), slF_lt (id := 4) (v := (.slice sA3 bk2.fw.ships.length sc3)) (sz := 5) (li := bk2.fw.ships) (enc := encShip) (z := zShip) h (by kernel_rfl), slF_lt (id := 5) (v := (.slice sA4 bk2.fw.sights.length sc4)) (sz := 4) (li := bk2.fw.sights) (enc := encSight) (z := zSight) h (by kernel_rfl), own_lt (id := 1) (e := 60) (sz := 2) (li := ([(tripL 20 0), (tripL 20 0), (tripL 60 30)])) (enc := encTrip) (z := zTrip) h (by kernel_rfl), trivial⟩, by rw [show heavyL = (⟨bk2.lan, bk2.fw, bk2.each, bk2.shore, bk2.turn, [(tripL 20 0), (tripL 20 0), (tripL 60 30)]⟩ : XBook) from rfl]; exact ⟨⟨fun g h1 h2 h3 h4 => own_apart h (i := 2) (j := 3) (x := slF (.slice sA1 bk2.lan.tides.length sc1) 2 bk2.lan.tides encSpan zSpan) (y := slF (.slice sA2 bk2.lan.sounds.length sc2) 3 bk2.lan.sounds encSound zSound) (by kernel_rfl) (by kernel_rfl) (by decide) rfl g ⟨h1, h2⟩ ⟨h3, h4⟩, fun g h1 h2 h3 h4 => own_apart h (i := 2) (j := 4) (x := slF (.slice sA1 bk2.lan.tides.length sc1) 2 bk2.lan.tides encSpan zSpan) (y := slF (.slice sA3 bk2.fw.ships.length sc3) 5 bk2.fw.ships encShip zShip) (by kernel_rfl) (by kernel_rfl) (by decide) rfl g ⟨h1, h2⟩ ⟨h3, h4⟩, fun g h1 h2 h3 h4 => own_apart h (i := 2) (j := 5) (x := slF (.slice sA1 bk2.lan.tides.length sc1) 2 bk2.lan.tides encSpan zSpan) (y := slF (.slice sA4 bk2.fw.sights.length sc4) 4 bk2.fw.sights encSight zSight) (by kernel_rfl) (by kernel_rfl) (by decide) rfl g ⟨h1, h2⟩ ⟨h3, h4⟩, fun g h1 h2 h3 h4 => own_apart h (i := 2) (j := 1) (x := slF (.slice sA1 bk2.lan.tides.length sc1) 2 bk2.lan.tides encSpan zSpan) (y := .sl .own 60 2 ([(tripL 20 0), (tripL 20 0), (tripL 60 30)]) encTrip zTrip) (by kernel_rfl) (by kernel_rfl) (by decide) rfl g ⟨h1, h2⟩ h3, trivial⟩, ⟨fun g h1 h2 h3 h4 => own_apart h (i := 3) (j := 4) (x := slF (.slice sA2 bk2.lan.sounds.length sc2) 3 bk2.lan.sounds encSound zSound) (y := slF (.slice sA3 bk2.fw.ships.length sc3) 5 bk2.fw.ships encShip zShip) (by kernel_rfl) (by kernel_rfl) (by decide) rfl g ⟨h1, h2⟩ ⟨h3, h4⟩, fun g h1 h2 h3 h4 => own_apart h (i := 3) (j := 5) (x := slF (.slice sA2 bk2.lan.sounds.length sc2) 3 bk2.lan.sounds encSound zSound) (y := slF (.slice sA4 bk2.fw.sights.length sc4) 4 bk2.fw.sights encSight zSight) (by kernel_rfl) (by kernel_rfl) (by decide) rfl g ⟨h1, h2⟩ ⟨h3, h4⟩, fun g h1 h2 h3 h4 => own_apart h (i := 3) (j := 1) (x := slF (.slice sA2 bk2.lan.sounds.length sc2) 3 bk2.lan.sounds encSound zSound) (y := .sl .own 60 2 ([(tripL 20 0), (tripL 20 0), (tripL 60 30)]) encTrip zTrip) (by kernel_rfl) (by kernel_rfl) (by decide) rfl g ⟨h1, h2⟩ h3, trivial⟩, ⟨fun g h1 h2 h3 h4 => own_apart h (i := 4) (j := 5) (x := slF (.slice sA3 bk2.fw.ships.length sc3) 5 bk2.fw.ships encShip zShip) (y := slF (.slice sA4 bk2.fw.sights.length sc4) 4 bk2.fw.sights encSight zSight) (by kernel_rfl) (by kernel_rfl) (by decide) rfl g ⟨h1, h2⟩ ⟨h3, h4⟩, fun g h1 h2 h3 h4 => own_apart h (i := 4) (j := 1) (x := slF (.slice sA3 bk2.fw.ships.length sc3) 5 bk2.fw.ships encShip zShip) (y := .sl .own 60 2 ([(tripL 20 0), (tripL 20 0), (tripL 60 30)]) encTrip zTrip) (by kernel_rfl) (by kernel_rfl) (by decide) rfl g ⟨h1, h2⟩ h3, trivial⟩, ⟨fun g h1 h2 h3 h4 => own_apart h (i := 5) (j := 1) (x := slF (.slice sA4 bk2.fw.sights.length sc4) 4 bk2.fw.sights encSight zSight) (y := .sl .own 60 2 ([(tripL 20 0), (tripL 20 0), (tripL 60 30)]) encTrip zTrip) (by kernel_rfl) (by kernel_rfl) (by decide) rfl g ⟨h1, h2⟩ h3, trivial⟩, trivial, trivial⟩⟩⟩
def ferriedL  : Bool :=
 (bif ((((((((((sureA ownL 0 20 18).2 != 0) || ((nextX ownL 0 20 20).2 != 0)) || ((lastX ownL 0 20 29).2 != 0)) || ((planA ownL).2 != 0)) || ((waitsA ownL).2 != 0)) || ((sureA ownL 0 20 18).1 != 2)) || ((nextX ownL 0 20 20).1 != 30)) || ((lastX ownL 0 20 29).1 != 19)) || (!(alikeF (planA ownL).1 (bif (true && ((((((((((sureA ownL 0 20 18).2 != 0) || ((nextX ownL 0 20 20).2 != 0)) || ((lastX ownL 0 20 29).2 != 0)) || ((planA ownL).2 != 0)) || ((waitsA ownL).2 != 0)) || ((sureA ownL 0 20 18).1 != 2)) || ((nextX ownL 0 20 20).1 != 30)) || ((lastX ownL 0 20 29).1 != 19)) == false)) then [18, 25, 32] else [])))) || ((waitsA ownL).1 != 18) then false else (((((((manyA heavyL).2 == 0) && ((lateA ownL 1).2 == 0)) && ((shipA singleL).2 == 0)) && ((planA heavyL).2 == 4)) && ((manyA heavyL).1 == 2)) && ((lateA ownL 1).1 == 25)) && ((shipA singleL).1 == 1))
theorem ferriedL_calls   (w : World)  (ha : AsksAt w) (hun : UnknownAt w) (hnw0 : NowhereAt w) (hla : LAsksAt w) (hsd : SidesAt w) (hxn : XNowhereAt w) : Calls Tryd.prog 14 #[] w fun e w' => e = .returned (.bool ferriedL) ∧ Below w.heap.size w w' := by
 refine calls_of_WP (cx := cx0 w Eng.n0 0) (n := Eng.n0) (vs := []) (hp := [(0, .pf AsksAt (· = 5)), (1, .pf UnknownAt (· = 4)), (2, .pf NowhereAt (· = 3)), (3, .pf LAsksAt (· = 1)), (4, .pf SidesAt (· = 0)), (5, .pf XNowhereAt (· = 2))]) (nx := 6) tt_ok Tryd.func14 rfl rfl rfl (by kernel_rfl) (HSat_args (fun _ => rfl) (by decide) ⟨pf_in ha, pf_in hun, pf_in hnw0, pf_in hla, pf_in hsd, pf_in hxn, trivial⟩) (vsOk (by kernel_rfl)) ?_
 refine WSA tt_ok ?_
 refine WP_seq (WP_region (CALLF5 36 [] (fun sv0_ sv1_ sv2_ sv3_ sv4_ => .g (xD (.v sv0_) ownL (.v sv1_) (.v sv2_) (.v sv3_) (.v sv4_))) ⟨24, 2, _, ownL.lan.tides, encSpan, zSpan⟩ ⟨112, 3, _, ownL.lan.sounds, encSound, zSound⟩ ⟨103, 5, _, ownL.fw.ships, encShip, zShip⟩ ⟨105, 4, _, ownL.fw.sights, encSight, zSight⟩ ⟨60, 2, _, ownL.trips, encTrip, zTrip⟩ (by kernel_rfl) (goes_of (by kernel_rfl)) (fun _ _ _ _ _ _ _ _ _ _ => (by kernel_rfl)) (fun _ _ _ _ _ _ _ _ _ _ => (by kernel_rfl)) (fun _ _ _ _ _ _ _ _ _ _ _ _ => rfl) ⟨⟨(Nat.le_of_ble_eq_true rfl), fun _ => rfl⟩, ⟨(Nat.le_of_ble_eq_true rfl), fun _ => rfl⟩, ⟨(Nat.le_of_ble_eq_true rfl), fun _ => rfl⟩, ⟨(Nat.le_of_ble_eq_true rfl), fun _ => rfl⟩, ⟨(Nat.le_of_ble_eq_true rfl), fun _ => rfl⟩, trivial⟩ (fun nV w h => ownL_calls   w  ) (fun sA1 sc1 sA2 sc2 sA3 sc3 sA4 sc4 sA5 sc5 => ?_)))
 refine CAL 16 [.g (xD (.v (.slice sA1 ownL.lan.tides.length sc1)) ownL (.v (.slice sA2 ownL.lan.sounds.length sc2)) (.v (.slice sA3 ownL.fw.ships.length sc3)) (.v (.slice sA4 ownL.fw.sights.length sc4)) (.v (.slice sA5 ownL.trips.length sc5))), .s (.int .i64 0), .s (.int .i64 20), .s (.int .i64 18)] (.t [(false, [.int .i64 (sureA ownL 0 20 18).1]), (false, [.int .i64 (sureA ownL 0 20 18).2])]) [] (fun hG nV w h => sureA_calls (.slice sA1 ownL.lan.tides.length sc1) (.slice sA2 ownL.lan.sounds.length sc2) (.slice sA3 ownL.fw.ships.length sc3) (.slice sA4 ownL.fw.sights.length sc4) (.slice sA5 ownL.trips.length sc5) ownL 0 20 18 w (h.rs 6) (h.rs 7) (h.rs 8) (h.rs 9) (h.rs 10) (h.ft 0 5) (h.ft 1 4) (h.ft 2 3) (h.ft 3 1) (h.ft 4 0) (h.ft 5 2) ) ?_
 refine WPA tt_ok ?_
 refine WP_seq (WP_region (CALLF5 36 [] (fun sv0_ sv1_ sv2_ sv3_ sv4_ => .g (xD (.v sv0_) ownL (.v sv1_) (.v sv2_) (.v sv3_) (.v sv4_))) ⟨24, 2, _, ownL.lan.tides, encSpan, zSpan⟩ ⟨112, 3, _, ownL.lan.sounds, encSound, zSound⟩ ⟨103, 5, _, ownL.fw.ships, encShip, zShip⟩ ⟨105, 4, _, ownL.fw.sights, encSight, zSight⟩ ⟨60, 2, _, ownL.trips, encTrip, zTrip⟩ (by kernel_rfl) (goes_of (by kernel_rfl)) (fun _ _ _ _ _ _ _ _ _ _ => (by kernel_rfl)) (fun _ _ _ _ _ _ _ _ _ _ => (by kernel_rfl)) (fun _ _ _ _ _ _ _ _ _ _ _ _ => rfl) ⟨⟨(Nat.le_of_ble_eq_true rfl), fun _ => rfl⟩, ⟨(Nat.le_of_ble_eq_true rfl), fun _ => rfl⟩, ⟨(Nat.le_of_ble_eq_true rfl), fun _ => rfl⟩, ⟨(Nat.le_of_ble_eq_true rfl), fun _ => rfl⟩, ⟨(Nat.le_of_ble_eq_true rfl), fun _ => rfl⟩, trivial⟩ (fun nV w h => ownL_calls   w  ) (fun sA6 sc6 sA7 sc7 sA8 sc8 sA9 sc9 sA10 sc10 => ?_)))
 refine CAL 19 [.g (xD (.v (.slice sA6 ownL.lan.tides.length sc6)) ownL (.v (.slice sA7 ownL.lan.sounds.length sc7)) (.v (.slice sA8 ownL.fw.ships.length sc8)) (.v (.slice sA9 ownL.fw.sights.length sc9)) (.v (.slice sA10 ownL.trips.length sc10))), .s (.int .i64 0), .s (.int .i64 20), .s (.int .i64 20)] (.t [(false, [.int .i64 (nextX ownL 0 20 20).1]), (false, [.int .i64 (nextX ownL 0 20 20).2])]) [] (fun hG nV w h => nextX_calls (.slice sA6 ownL.lan.tides.length sc6) (.slice sA7 ownL.lan.sounds.length sc7) (.slice sA8 ownL.fw.ships.length sc8) (.slice sA9 ownL.fw.sights.length sc9) (.slice sA10 ownL.trips.length sc10) ownL 0 20 20 w (h.rs 11) (h.rs 12) (h.rs 13) (h.rs 14) (h.rs 15) (h.ft 0 5) (h.ft 1 4) (h.ft 2 3) (h.ft 3 1) (h.ft 4 0) (h.ft 5 2) ) ?_
 refine WPA tt_ok ?_
 refine WP_seq (WP_region (CALLF5 36 [] (fun sv0_ sv1_ sv2_ sv3_ sv4_ => .g (xD (.v sv0_) ownL (.v sv1_) (.v sv2_) (.v sv3_) (.v sv4_))) ⟨24, 2, _, ownL.lan.tides, encSpan, zSpan⟩ ⟨112, 3, _, ownL.lan.sounds, encSound, zSound⟩ ⟨103, 5, _, ownL.fw.ships, encShip, zShip⟩ ⟨105, 4, _, ownL.fw.sights, encSight, zSight⟩ ⟨60, 2, _, ownL.trips, encTrip, zTrip⟩ (by kernel_rfl) (goes_of (by kernel_rfl)) (fun _ _ _ _ _ _ _ _ _ _ => (by kernel_rfl)) (fun _ _ _ _ _ _ _ _ _ _ => (by kernel_rfl)) (fun _ _ _ _ _ _ _ _ _ _ _ _ => rfl) ⟨⟨(Nat.le_of_ble_eq_true rfl), fun _ => rfl⟩, ⟨(Nat.le_of_ble_eq_true rfl), fun _ => rfl⟩, ⟨(Nat.le_of_ble_eq_true rfl), fun _ => rfl⟩, ⟨(Nat.le_of_ble_eq_true rfl), fun _ => rfl⟩, ⟨(Nat.le_of_ble_eq_true rfl), fun _ => rfl⟩, trivial⟩ (fun nV w h => ownL_calls   w  ) (fun sA11 sc11 sA12 sc12 sA13 sc13 sA14 sc14 sA15 sc15 => ?_)))
 refine CAL 22 [.g (xD (.v (.slice sA11 ownL.lan.tides.length sc11)) ownL (.v (.slice sA12 ownL.lan.sounds.length sc12)) (.v (.slice sA13 ownL.fw.ships.length sc13)) (.v (.slice sA14 ownL.fw.sights.length sc14)) (.v (.slice sA15 ownL.trips.length sc15))), .s (.int .i64 0), .s (.int .i64 20), .s (.int .i64 29)] (.t [(false, [.int .i64 (lastX ownL 0 20 29).1]), (false, [.int .i64 (lastX ownL 0 20 29).2])]) [] (fun hG nV w h => lastX_calls (.slice sA11 ownL.lan.tides.length sc11) (.slice sA12 ownL.lan.sounds.length sc12) (.slice sA13 ownL.fw.ships.length sc13) (.slice sA14 ownL.fw.sights.length sc14) (.slice sA15 ownL.trips.length sc15) ownL 0 20 29 w (h.rs 16) (h.rs 17) (h.rs 18) (h.rs 19) (h.rs 20) (h.ft 0 5) (h.ft 1 4) (h.ft 2 3) (h.ft 3 1) (h.ft 4 0) (h.ft 5 2) ) ?_
 refine WPA tt_ok ?_
 refine WP_seq (WP_region (CALLF5 36 [] (fun sv0_ sv1_ sv2_ sv3_ sv4_ => .g (xD (.v sv0_) ownL (.v sv1_) (.v sv2_) (.v sv3_) (.v sv4_))) ⟨24, 2, _, ownL.lan.tides, encSpan, zSpan⟩ ⟨112, 3, _, ownL.lan.sounds, encSound, zSound⟩ ⟨103, 5, _, ownL.fw.ships, encShip, zShip⟩ ⟨105, 4, _, ownL.fw.sights, encSight, zSight⟩ ⟨60, 2, _, ownL.trips, encTrip, zTrip⟩ (by kernel_rfl) (goes_of (by kernel_rfl)) (fun _ _ _ _ _ _ _ _ _ _ => (by kernel_rfl)) (fun _ _ _ _ _ _ _ _ _ _ => (by kernel_rfl)) (fun _ _ _ _ _ _ _ _ _ _ _ _ => rfl) ⟨⟨(Nat.le_of_ble_eq_true rfl), fun _ => rfl⟩, ⟨(Nat.le_of_ble_eq_true rfl), fun _ => rfl⟩, ⟨(Nat.le_of_ble_eq_true rfl), fun _ => rfl⟩, ⟨(Nat.le_of_ble_eq_true rfl), fun _ => rfl⟩, ⟨(Nat.le_of_ble_eq_true rfl), fun _ => rfl⟩, trivial⟩ (fun nV w h => ownL_calls   w  ) (fun sA16 sc16 sA17 sc17 sA18 sc18 sA19 sc19 sA20 sc20 => ?_)))
 refine CALLR 23 [.g (xD (.v (.slice sA16 ownL.lan.tides.length sc16)) ownL (.v (.slice sA17 ownL.lan.sounds.length sc17)) (.v (.slice sA18 ownL.fw.ships.length sc18)) (.v (.slice sA19 ownL.fw.sights.length sc19)) (.v (.slice sA20 ownL.trips.length sc20)))] (.t [(false, [.ref 26]), (false, [.int .i64 (planA ownL).2])]) 3 1 (planA ownL).1 encI 0 26 (by kernel_rfl) (by kernel_rfl) (goes_of (by kernel_rfl)) (by kernel_rfl) (by kernel_rfl) (by decide) (fun _ => rfl) (fun nV w h => (planA_calls (.slice sA16 ownL.lan.tides.length sc16) (.slice sA17 ownL.lan.sounds.length sc17) (.slice sA18 ownL.fw.ships.length sc18) (.slice sA19 ownL.fw.sights.length sc19) (.slice sA20 ownL.trips.length sc20) ownL w (h.rs 21) (h.rs 22) (h.rs 23) (h.rs 24) (h.rs 25) (h.ft 0 5) (h.ft 1 4) (h.ft 2 3) (h.ft 3 1) (h.ft 4 0) (h.ft 5 2) ).mono fun e w' h1 => weak_fresh h1) ?_
 refine WPA tt_ok ?_
 refine WP_seq (WP_region (CALLF5 36 [] (fun sv0_ sv1_ sv2_ sv3_ sv4_ => .g (xD (.v sv0_) ownL (.v sv1_) (.v sv2_) (.v sv3_) (.v sv4_))) ⟨24, 2, _, ownL.lan.tides, encSpan, zSpan⟩ ⟨112, 3, _, ownL.lan.sounds, encSound, zSound⟩ ⟨103, 5, _, ownL.fw.ships, encShip, zShip⟩ ⟨105, 4, _, ownL.fw.sights, encSight, zSight⟩ ⟨60, 2, _, ownL.trips, encTrip, zTrip⟩ (by kernel_rfl) (goes_of (by kernel_rfl)) (fun _ _ _ _ _ _ _ _ _ _ => (by kernel_rfl)) (fun _ _ _ _ _ _ _ _ _ _ => (by kernel_rfl)) (fun _ _ _ _ _ _ _ _ _ _ _ _ => rfl) ⟨⟨(Nat.le_of_ble_eq_true rfl), fun _ => rfl⟩, ⟨(Nat.le_of_ble_eq_true rfl), fun _ => rfl⟩, ⟨(Nat.le_of_ble_eq_true rfl), fun _ => rfl⟩, ⟨(Nat.le_of_ble_eq_true rfl), fun _ => rfl⟩, ⟨(Nat.le_of_ble_eq_true rfl), fun _ => rfl⟩, trivial⟩ (fun nV w h => ownL_calls   w  ) (fun sA21 sc21 sA22 sc22 sA23 sc23 sA24 sc24 sA25 sc25 => ?_)))
 refine CAL 24 [.g (xD (.v (.slice sA21 ownL.lan.tides.length sc21)) ownL (.v (.slice sA22 ownL.lan.sounds.length sc22)) (.v (.slice sA23 ownL.fw.ships.length sc23)) (.v (.slice sA24 ownL.fw.sights.length sc24)) (.v (.slice sA25 ownL.trips.length sc25)))] (.t [(false, [.int .i64 (waitsA ownL).1]), (false, [.int .i64 (waitsA ownL).2])]) [] (fun hG nV w h => waitsA_calls (.slice sA21 ownL.lan.tides.length sc21) (.slice sA22 ownL.lan.sounds.length sc22) (.slice sA23 ownL.fw.ships.length sc23) (.slice sA24 ownL.fw.sights.length sc24) (.slice sA25 ownL.trips.length sc25) ownL w (h.rs 27) (h.rs 28) (h.rs 29) (h.rs 30) (h.rs 31) (h.ft 0 5) (h.ft 1 4) (h.ft 2 3) (h.ft 3 1) (h.ft 4 0) (h.ft 5 2) ) ?_
 refine WPA tt_ok ?_
 refine WP_seq (WP_seq (WP_region (WPO_run tt_ok 32 (by kernel_rfl) ?_)))
 refine LITG tt_ok [(69, false)] (true && ((((((((((sureA ownL 0 20 18).2 != 0) || ((nextX ownL 0 20 20).2 != 0)) || ((lastX ownL 0 20 29).2 != 0)) || ((planA ownL).2 != 0)) || ((waitsA ownL).2 != 0)) || ((sureA ownL 0 20 18).1 != 2)) || ((nextX ownL 0 20 20).1 != 30)) || ((lastX ownL 0 20 29).1 != 19)) == false)) 3 3 1 [.int .i64 18, .int .i64 25, .int .i64 32] [18, 25, 32] encI 0 (by kernel_rfl) (by kernel_rfl) rfl (fun _ => rfl) (fun n => rfl) (by kernel_rfl) ?_
 refine CAL 27 [.s (.ref 26), .s (.ref 32)] (.s (.bool (alikeF (planA ownL).1 (bif (true && ((((((((((sureA ownL 0 20 18).2 != 0) || ((nextX ownL 0 20 20).2 != 0)) || ((lastX ownL 0 20 29).2 != 0)) || ((planA ownL).2 != 0)) || ((waitsA ownL).2 != 0)) || ((sureA ownL 0 20 18).1 != 2)) || ((nextX ownL 0 20 20).1 != 30)) || ((lastX ownL 0 20 29).1 != 19)) == false)) then [18, 25, 32] else [])))) [(((((((((sureA ownL 0 20 18).2 != 0) || ((nextX ownL 0 20 20).2 != 0)) || ((lastX ownL 0 20 29).2 != 0)) || ((planA ownL).2 != 0)) || ((waitsA ownL).2 != 0)) || ((sureA ownL 0 20 18).1 != 2)) || ((nextX ownL 0 20 20).1 != 30)) || ((lastX ownL 0 20 29).1 != 19), false)] (fun hG nV w h => alikeF_calls (nV 26) (nV 32) (planA ownL).1 (bif (true && ((((((((((sureA ownL 0 20 18).2 != 0) || ((nextX ownL 0 20 20).2 != 0)) || ((lastX ownL 0 20 29).2 != 0)) || ((planA ownL).2 != 0)) || ((waitsA ownL).2 != 0)) || ((sureA ownL 0 20 18).1 != 2)) || ((nextX ownL 0 20 20).1 != 30)) || ((lastX ownL 0 20 29).1 != 19)) == false)) then [18, 25, 32] else []) w (h.rd 26 3) (h.reads (id := 32) (kd := .own) (e := 3) (by kernel_rfl)) ) ?_
 refine WPA tt_ok ?_
 refine WP_cond (((((((((((sureA ownL 0 20 18).2 != 0) || ((nextX ownL 0 20 20).2 != 0)) || ((lastX ownL 0 20 29).2 != 0)) || ((planA ownL).2 != 0)) || ((waitsA ownL).2 != 0)) || ((sureA ownL 0 20 18).1 != 2)) || ((nextX ownL 0 20 20).1 != 30)) || ((lastX ownL 0 20 29).1 != 19)) || (!(alikeF (planA ownL).1 (bif (true && ((((((((((sureA ownL 0 20 18).2 != 0) || ((nextX ownL 0 20 20).2 != 0)) || ((lastX ownL 0 20 29).2 != 0)) || ((planA ownL).2 != 0)) || ((waitsA ownL).2 != 0)) || ((sureA ownL 0 20 18).1 != 2)) || ((nextX ownL 0 20 20).1 != 30)) || ((lastX ownL 0 20 29).1 != 19)) == false)) then [18, 25, 32] else [])))) || ((waitsA ownL).1 != 18)) (by kernel_rfl) (fun hc2 => ?_) (fun hc2 => ?_)
 ·have hc2' := hc2; try simp only [bfs, ne_eq] at hc2'
  refine WSA tt_ok ?_
  refine WP_ret ?_
  exact ⟨.s (.bool false), by kernel_rfl, fun nV w' h => ⟨by rw [show ferriedL = false from by unfold ferriedL; rw [hc2]; exact cond_true _ _]; rfl, h.bel⟩⟩
 have hc2' := hc2; try simp only [bfs, ne_eq] at hc2'
 refine WP_skip ?_
 refine WP_seq (WP_region (CALLF5 41 [] (fun sv0_ sv1_ sv2_ sv3_ sv4_ => .g (xD (.v sv0_) heavyL (.v sv1_) (.v sv2_) (.v sv3_) (.v sv4_))) ⟨24, 2, _, heavyL.lan.tides, encSpan, zSpan⟩ ⟨112, 3, _, heavyL.lan.sounds, encSound, zSound⟩ ⟨103, 5, _, heavyL.fw.ships, encShip, zShip⟩ ⟨105, 4, _, heavyL.fw.sights, encSight, zSight⟩ ⟨60, 2, _, heavyL.trips, encTrip, zTrip⟩ (by kernel_rfl) (goes_of (by kernel_rfl)) (fun _ _ _ _ _ _ _ _ _ _ => (by kernel_rfl)) (fun _ _ _ _ _ _ _ _ _ _ => (by kernel_rfl)) (fun _ _ _ _ _ _ _ _ _ _ _ _ => rfl) ⟨⟨(Nat.le_of_ble_eq_true rfl), fun _ => rfl⟩, ⟨(Nat.le_of_ble_eq_true rfl), fun _ => rfl⟩, ⟨(Nat.le_of_ble_eq_true rfl), fun _ => rfl⟩, ⟨(Nat.le_of_ble_eq_true rfl), fun _ => rfl⟩, ⟨(Nat.le_of_ble_eq_true rfl), fun _ => rfl⟩, trivial⟩ (fun nV w h => heavyL_calls   w  ) (fun sA26 sc26 sA27 sc27 sA28 sc28 sA29 sc29 sA30 sc30 => ?_)))
 refine CAL 25 [.g (xD (.v (.slice sA26 heavyL.lan.tides.length sc26)) heavyL (.v (.slice sA27 heavyL.lan.sounds.length sc27)) (.v (.slice sA28 heavyL.fw.ships.length sc28)) (.v (.slice sA29 heavyL.fw.sights.length sc29)) (.v (.slice sA30 heavyL.trips.length sc30)))] (.t [(false, [.int .i64 (manyA heavyL).1]), (false, [.int .i64 (manyA heavyL).2])]) [] (fun hG nV w h => manyA_calls (.slice sA26 heavyL.lan.tides.length sc26) (.slice sA27 heavyL.lan.sounds.length sc27) (.slice sA28 heavyL.fw.ships.length sc28) (.slice sA29 heavyL.fw.sights.length sc29) (.slice sA30 heavyL.trips.length sc30) heavyL w (h.rs 33) (h.rs 34) (h.rs 35) (h.rs 36) (h.rs 37) (h.ft 0 5) (h.ft 1 4) (h.ft 2 3) (h.ft 3 1) (h.ft 4 0) (h.ft 5 2) ) ?_
 refine WPA tt_ok ?_
 refine WP_seq (WP_region (CALLF5 36 [] (fun sv0_ sv1_ sv2_ sv3_ sv4_ => .g (xD (.v sv0_) ownL (.v sv1_) (.v sv2_) (.v sv3_) (.v sv4_))) ⟨24, 2, _, ownL.lan.tides, encSpan, zSpan⟩ ⟨112, 3, _, ownL.lan.sounds, encSound, zSound⟩ ⟨103, 5, _, ownL.fw.ships, encShip, zShip⟩ ⟨105, 4, _, ownL.fw.sights, encSight, zSight⟩ ⟨60, 2, _, ownL.trips, encTrip, zTrip⟩ (by kernel_rfl) (goes_of (by kernel_rfl)) (fun _ _ _ _ _ _ _ _ _ _ => (by kernel_rfl)) (fun _ _ _ _ _ _ _ _ _ _ => (by kernel_rfl)) (fun _ _ _ _ _ _ _ _ _ _ _ _ => rfl) ⟨⟨(Nat.le_of_ble_eq_true rfl), fun _ => rfl⟩, ⟨(Nat.le_of_ble_eq_true rfl), fun _ => rfl⟩, ⟨(Nat.le_of_ble_eq_true rfl), fun _ => rfl⟩, ⟨(Nat.le_of_ble_eq_true rfl), fun _ => rfl⟩, ⟨(Nat.le_of_ble_eq_true rfl), fun _ => rfl⟩, trivial⟩ (fun nV w h => ownL_calls   w  ) (fun sA31 sc31 sA32 sc32 sA33 sc33 sA34 sc34 sA35 sc35 => ?_)))
 refine CAL 31 [.g (xD (.v (.slice sA31 ownL.lan.tides.length sc31)) ownL (.v (.slice sA32 ownL.lan.sounds.length sc32)) (.v (.slice sA33 ownL.fw.ships.length sc33)) (.v (.slice sA34 ownL.fw.sights.length sc34)) (.v (.slice sA35 ownL.trips.length sc35))), .s (.int .i64 1)] (.t [(false, [.int .i64 (lateA ownL 1).1]), (false, [.int .i64 (lateA ownL 1).2])]) [] (fun hG nV w h => lateA_calls (.slice sA31 ownL.lan.tides.length sc31) (.slice sA32 ownL.lan.sounds.length sc32) (.slice sA33 ownL.fw.ships.length sc33) (.slice sA34 ownL.fw.sights.length sc34) (.slice sA35 ownL.trips.length sc35) ownL 1 w (h.rs 38) (h.rs 39) (h.rs 40) (h.rs 41) (h.rs 42) (h.ft 0 5) (h.ft 1 4) (h.ft 2 3) (h.ft 3 1) (h.ft 4 0) (h.ft 5 2) ) ?_
 refine WPA tt_ok ?_
 refine WP_seq (WP_region (CALLF5 42 [] (fun sv0_ sv1_ sv2_ sv3_ sv4_ => .g (xD (.v sv0_) singleL (.v sv1_) (.v sv2_) (.v sv3_) (.v sv4_))) ⟨24, 2, _, singleL.lan.tides, encSpan, zSpan⟩ ⟨112, 3, _, singleL.lan.sounds, encSound, zSound⟩ ⟨103, 5, _, singleL.fw.ships, encShip, zShip⟩ ⟨105, 4, _, singleL.fw.sights, encSight, zSight⟩ ⟨60, 2, _, singleL.trips, encTrip, zTrip⟩ (by kernel_rfl) (goes_of (by kernel_rfl)) (fun _ _ _ _ _ _ _ _ _ _ => (by kernel_rfl)) (fun _ _ _ _ _ _ _ _ _ _ => (by kernel_rfl)) (fun _ _ _ _ _ _ _ _ _ _ _ _ => rfl) ⟨⟨(Nat.le_of_ble_eq_true rfl), fun _ => rfl⟩, ⟨(Nat.le_of_ble_eq_true rfl), fun _ => rfl⟩, ⟨(Nat.le_of_ble_eq_true rfl), fun _ => rfl⟩, ⟨(Nat.le_of_ble_eq_true rfl), fun _ => rfl⟩, ⟨(Nat.le_of_ble_eq_true rfl), fun _ => rfl⟩, trivial⟩ (fun nV w h => singleL_calls   w  ) (fun sA36 sc36 sA37 sc37 sA38 sc38 sA39 sc39 sA40 sc40 => ?_)))
 refine CAL 34 [.g (xD (.v (.slice sA36 singleL.lan.tides.length sc36)) singleL (.v (.slice sA37 singleL.lan.sounds.length sc37)) (.v (.slice sA38 singleL.fw.ships.length sc38)) (.v (.slice sA39 singleL.fw.sights.length sc39)) (.v (.slice sA40 singleL.trips.length sc40)))] (.t [(false, [.int .i64 (shipA singleL).1]), (false, [.int .i64 (shipA singleL).2])]) [] (fun hG nV w h => shipA_calls (.slice sA36 singleL.lan.tides.length sc36) (.slice sA37 singleL.lan.sounds.length sc37) (.slice sA38 singleL.fw.ships.length sc38) (.slice sA39 singleL.fw.sights.length sc39) (.slice sA40 singleL.trips.length sc40) singleL w (h.rs 43) (h.rs 44) (h.rs 45) (h.rs 46) (h.rs 47) (h.ft 0 5) (h.ft 1 4) (h.ft 2 3) (h.ft 3 1) (h.ft 4 0) (h.ft 5 2) ) ?_
 refine WPA tt_ok ?_
 refine WP_seq (WP_region (CALLF5 41 [] (fun sv0_ sv1_ sv2_ sv3_ sv4_ => .g (xD (.v sv0_) heavyL (.v sv1_) (.v sv2_) (.v sv3_) (.v sv4_))) ⟨24, 2, _, heavyL.lan.tides, encSpan, zSpan⟩ ⟨112, 3, _, heavyL.lan.sounds, encSound, zSound⟩ ⟨103, 5, _, heavyL.fw.ships, encShip, zShip⟩ ⟨105, 4, _, heavyL.fw.sights, encSight, zSight⟩ ⟨60, 2, _, heavyL.trips, encTrip, zTrip⟩ (by kernel_rfl) (goes_of (by kernel_rfl)) (fun _ _ _ _ _ _ _ _ _ _ => (by kernel_rfl)) (fun _ _ _ _ _ _ _ _ _ _ => (by kernel_rfl)) (fun _ _ _ _ _ _ _ _ _ _ _ _ => rfl) ⟨⟨(Nat.le_of_ble_eq_true rfl), fun _ => rfl⟩, ⟨(Nat.le_of_ble_eq_true rfl), fun _ => rfl⟩, ⟨(Nat.le_of_ble_eq_true rfl), fun _ => rfl⟩, ⟨(Nat.le_of_ble_eq_true rfl), fun _ => rfl⟩, ⟨(Nat.le_of_ble_eq_true rfl), fun _ => rfl⟩, trivial⟩ (fun nV w h => heavyL_calls   w  ) (fun sA41 sc41 sA42 sc42 sA43 sc43 sA44 sc44 sA45 sc45 => ?_)))
 refine CALLR 23 [.g (xD (.v (.slice sA41 heavyL.lan.tides.length sc41)) heavyL (.v (.slice sA42 heavyL.lan.sounds.length sc42)) (.v (.slice sA43 heavyL.fw.ships.length sc43)) (.v (.slice sA44 heavyL.fw.sights.length sc44)) (.v (.slice sA45 heavyL.trips.length sc45)))] (.t [(false, [.ref 53]), (false, [.int .i64 (planA heavyL).2])]) 3 1 (planA heavyL).1 encI 0 53 (by kernel_rfl) (by kernel_rfl) (goes_of (by kernel_rfl)) (by kernel_rfl) (by kernel_rfl) (by decide) (fun _ => rfl) (fun nV w h => (planA_calls (.slice sA41 heavyL.lan.tides.length sc41) (.slice sA42 heavyL.lan.sounds.length sc42) (.slice sA43 heavyL.fw.ships.length sc43) (.slice sA44 heavyL.fw.sights.length sc44) (.slice sA45 heavyL.trips.length sc45) heavyL w (h.rs 48) (h.rs 49) (h.rs 50) (h.rs 51) (h.rs 52) (h.ft 0 5) (h.ft 1 4) (h.ft 2 3) (h.ft 3 1) (h.ft 4 0) (h.ft 5 2) ).mono fun e w' h1 => weak_fresh h1) ?_
 refine WPA tt_ok ?_
 refine WSA tt_ok ?_
 refine WP_ret ?_
 exact ⟨.s (.bool ((((((((manyA heavyL).2 == 0) && ((lateA ownL 1).2 == 0)) && ((shipA singleL).2 == 0)) && ((planA heavyL).2 == 4)) && ((manyA heavyL).1 == 2)) && ((lateA ownL 1).1 == 25)) && ((shipA singleL).1 == 1))), by kernel_rfl, fun nV w' h => ⟨by rw [show ferriedL = ((((((((manyA heavyL).2 == 0) && ((lateA ownL 1).2 == 0)) && ((shipA singleL).2 == 0)) && ((planA heavyL).2 == 4)) && ((manyA heavyL).1 == 2)) && ((lateA ownL 1).1 == 25)) && ((shipA singleL).1 == 1)) from by unfold ferriedL; rw [hc2]; exact cond_false _ _]; rfl, h.bel⟩⟩
def soundL_c1 (b : XBook) (k1 : Nat) : Bool → Bool := fun v1_1 => v1_1 && (decide ((k1 : Int) < (b.trips.length : Int)))
def soundL_b1 (b : XBook) (k1 : Nat) : Bool → Bd Bool Bool := fun v1_1 => .go ((insideF (b.trips.getD k1 zTrip).load 0 200) && (insideF (b.trips.getD k1 zTrip).ready 0 60))
def soundL (b : XBook) : Bool :=
 (match loopR (soundL_c1 b) (soundL_b1 b) b.trips.length 0 (((((((((((checkX b) == 0) && ((checkL b.lan) == 0)) && ((checkW b.fw) == 0)) && (insideF b.each 1 60)) && (insideF b.shore 0 1)) && (insideF b.turn 0 30)) && (insideF (b.trips.length : Int) 1 4)) && (insideF b.fw.cr 1 20)) && (decide ((b.fw.ships.length : Int) ≤ 4))) && (decide ((b.fw.sights.length : Int) ≤ 5))) with | .brk u1_0 => u1_0 | .ret r => r)
theorem soundL_calls (g0 g1 g2 g3 g4 : Value) (b : XBook) (w : World) (r0 : Reads w g0 2 b.lan.tides encSpan zSpan) (r1 : Reads w g1 3 b.lan.sounds encSound zSound) (r2 : Reads w g2 5 b.fw.ships encShip zShip) (r3 : Reads w g3 4 b.fw.sights encSight zSight) (r4 : Reads w g4 2 b.trips encTrip zTrip)  : Calls Tryd.prog 13 #[.agg ((xV g0 b g1 g2 g3 g4).toArray)] w fun e w' => e = .returned (.bool (soundL b)) ∧ Below w.heap.size w w' := by
 refine CW tt_ok [g0, g1, g2, g3, g4] 5 [.g (xQ b)] (roX b []) 5 Tryd.func13 rfl rfl rfl (by simp [r0.one, r1.one, r2.one, r3.one, r4.one]) ⟨ro_in r0, ro_in r1, ro_in r2, ro_in r3, ro_in r4, trivial⟩ ?_
 have hl0 := Reads.len r0
 have hl1 := Reads.len r1
 have hl2 := Reads.len r2
 have hl3 := Reads.len r3
 have hl4 := Reads.len r4
 refine WSA tt_ok ?_
 refine WSR tt_ok 1 ?_
 refine CAL 39 [.g (xQ b)] (.s (.int .i64 (checkX b))) [] (fun hG nV w h => checkX_calls (nV 0) (nV 1) (nV 2) (nV 3) (nV 4) b w (h.rd 0 24) (h.rd 1 112) (h.rd 2 103) (h.rd 3 105) (h.rd 4 60) ) ?_
 refine WPO_run tt_ok 4 (by kernel_rfl) ?_
 refine CAL 43 [.g (lR b.lan)] (.s (.int .i64 (checkL b.lan))) [((checkX b) == 0, true)] (fun hG nV w h => checkL_calls (nV 0) (nV 1) b.lan w (h.rd 0 24) (h.rd 1 112) ) ?_
 refine WPO_run tt_ok 5 (by kernel_rfl) ?_
 refine CAL 44 [.g [.ref 2, .int .i64 b.fw.hear.lo, .int .i64 b.fw.hear.hi, .int .i64 b.fw.br, .int .i64 b.fw.cr, .int .i64 b.fw.sl, .ref 3]] (.s (.int .i64 (checkW b.fw))) [(((checkX b) == 0) && ((checkL b.lan) == 0), true)] (fun _ nV w h => Check_calls (nV 2) (nV 3) b.fw w ⟨h.reads (id := 2) (kd := .ro) (e := 103) (by kernel_rfl), h.reads (id := 3) (kd := .ro) (e := 105) (by kernel_rfl)⟩) ?_
 refine WPO_run tt_ok 5 (by kernel_rfl) ?_
 refine CAL 21 [.s (.int .i64 b.each), .s (.int .i64 1), .s (.int .i64 60)] (.s (.bool (insideF b.each 1 60))) [((((checkX b) == 0) && ((checkL b.lan) == 0)) && ((checkW b.fw) == 0), true)] (fun hG nV w h => insideF_calls  b.each 1 60 w  ) ?_
 refine WPO_run tt_ok 4 (by kernel_rfl) ?_
 refine CAL 21 [.s (.int .i64 b.shore), .s (.int .i64 0), .s (.int .i64 1)] (.s (.bool (insideF b.shore 0 1))) [(((((checkX b) == 0) && ((checkL b.lan) == 0)) && ((checkW b.fw) == 0)) && (insideF b.each 1 60), true)] (fun hG nV w h => insideF_calls  b.shore 0 1 w  ) ?_
 refine WPO_run tt_ok 4 (by kernel_rfl) ?_
 refine CAL 21 [.s (.int .i64 b.turn), .s (.int .i64 0), .s (.int .i64 30)] (.s (.bool (insideF b.turn 0 30))) [((((((checkX b) == 0) && ((checkL b.lan) == 0)) && ((checkW b.fw) == 0)) && (insideF b.each 1 60)) && (insideF b.shore 0 1), true)] (fun hG nV w h => insideF_calls  b.turn 0 30 w  ) ?_
 refine WPO_run tt_ok 5 (by kernel_rfl) ?_
 refine CAL 21 [.s (.int .i64 (b.trips.length : Int)), .s (.int .i64 1), .s (.int .i64 4)] (.s (.bool (insideF (b.trips.length : Int) 1 4))) [(((((((checkX b) == 0) && ((checkL b.lan) == 0)) && ((checkW b.fw) == 0)) && (insideF b.each 1 60)) && (insideF b.shore 0 1)) && (insideF b.turn 0 30), true)] (fun hG nV w h => insideF_calls  (b.trips.length : Int) 1 4 w  ) ?_
 refine WPO_run tt_ok 5 (by kernel_rfl) ?_
 refine CAL 21 [.s (.int .i64 b.fw.cr), .s (.int .i64 1), .s (.int .i64 20)] (.s (.bool (insideF b.fw.cr 1 20))) [((((((((checkX b) == 0) && ((checkL b.lan) == 0)) && ((checkW b.fw) == 0)) && (insideF b.each 1 60)) && (insideF b.shore 0 1)) && (insideF b.turn 0 30)) && (insideF (b.trips.length : Int) 1 4), true)] (fun hG nV w h => insideF_calls  b.fw.cr 1 20 w  ) ?_
 refine WPA tt_ok ?_
 refine WP_seq (WSA tt_ok ?_)
 refine WP_loopA (ρ := Bool) (soundL_c1 b) (soundL_b1 b) b.trips.length (((((((((((checkX b) == 0) && ((checkL b.lan) == 0)) && ((checkW b.fw) == 0)) && (insideF b.each 1 60)) && (insideF b.shore 0 1)) && (insideF b.turn 0 30)) && (insideF (b.trips.length : Int) 1 4)) && (insideF b.fw.cr 1 20)) && (decide ((b.fw.ships.length : Int) ≤ 4))) && (decide ((b.fw.sights.length : Int) ≤ 5))) (fun k : Nat => (k : Int)) (fun (ci : Int) (zz : Bool) => ⟨88, [(4, [], .s (.int .i64 ci)), (3, [], .s (.bool zz)), (1, [], .s (.p 5 0))], ((5, .box 37 (xQ b)) :: (roX b [])), 6, []⟩) (fun zz : Bool => ⟨88, [(3, [], .s (.bool zz))], ((5, .box 37 (xQ b)) :: (roX b [])), 6, []⟩) (fun k zz => True) trivial ⟨0, rfl, Le_sel (ts := [4, 3, 1]) (ids := [5, 0, 1, 2, 3, 4]) (nx := 6) (by kernel_rfl)⟩ ?_ ?_
 ·intro k1 v1_1 hn1 hp1 hi1 Q1 hq1 ho1
  refine WP_seq (WSA tt_ok ?_)
  refine WP_cond (v1_1 && (decide ((k1 : Int) < (b.trips.length : Int)))) (by kernel_rfl) (fun hc1 => ?_) (fun hc1 => ?_)
  rotate_left
  ·refine WP_exit ?_
   show Q1 (.exit 0) _
   exact LA_exit hq1 v1_1 (loopR_end hi1 hc1) ⟨k1, hn1, hp1⟩ (Le_sel (ts := [3]) (ids := [5, 0, 1, 2, 3, 4]) (nx := 6) (by kernel_rfl))
  have hc1' := hc1; try simp only [bfs, ne_eq] at hc1'
  have hk1 : k1 < b.trips.length := by omega
  refine WP_skip ?_
  refine WP_seq (WP_block ?_)
  refine WP_region (WPO_run tt_ok 3 (by kernel_rfl) ?_)
  refine IX tt_ok (k1 : Int) b.trips.length [] (by kernel_rfl) (fun hG => ⟨by omega, by omega⟩) ?_
  refine WPO_run tt_ok 2 (by kernel_rfl) ?_
  refine CAL 21 [.s (.int .i64 (b.trips.getD k1 zTrip).load), .s (.int .i64 0), .s (.int .i64 200)] (.s (.bool (insideF (b.trips.getD k1 zTrip).load 0 200))) [] (fun hG nV w h => insideF_calls  (b.trips.getD k1 zTrip).load 0 200 w  ) ?_
  refine WPO_run tt_ok 4 (by kernel_rfl) ?_
  refine IX tt_ok (k1 : Int) b.trips.length [((insideF (b.trips.getD k1 zTrip).load 0 200), true)] (by kernel_rfl) (fun hG => (by (try simp only [AllEq, and_true, Bool.and_eq_true, Bool.or_eq_true, Bool.not_eq_true', decide_eq_true_eq, decide_eq_false_iff_not] at hG); constructor <;> omega)) ?_
  refine WPO_run tt_ok 2 (by kernel_rfl) ?_
  refine CAL 21 [.s (.int .i64 (b.trips.getD k1 zTrip).ready), .s (.int .i64 0), .s (.int .i64 60)] (.s (.bool (insideF (b.trips.getD k1 zTrip).ready 0 60))) [((insideF (b.trips.getD k1 zTrip).load 0 200), true)] (fun hG nV w h => insideF_calls  (b.trips.getD k1 zTrip).ready 0 60 w  ) ?_
  refine WPA tt_ok ?_
  refine WRA tt_ok ?_
  show Q1 .normal _
  exact LA_go hq1 (ci := IntKind.i64.wrap ((k1 : Int) + 1)) ((insideF (b.trips.getD k1 zTrip).load 0 200) && (insideF (b.trips.getD k1 zTrip).ready 0 60)) hk1 (by show _ = ((k1 + 1 : Nat) : Int); rw [wrapI (by omega) (by omega)]; omega) (loopR_go hi1 hk1 hc1 (rfl)) trivial (Le_sel (ts := [4, 3, 1]) (ids := [5, 0, 1, 2, 3, 4]) (nx := 6) (by kernel_rfl))
 intro u1_0 hR1 hP1 s' hl
 refine WP_le hl ?_
 clear hl s'
 refine WSA tt_ok ?_
 refine WP_ret ?_
 exact ⟨.s (.bool u1_0), by kernel_rfl, fun nV w' h => ⟨by rw [show soundL b = u1_0 from by unfold soundL; simp only [hR1, cond_true, cond_false]]; rfl, h.bel⟩⟩
def true2L (b : XBook) : Bool :=
 ((((rightL b.lan).2 == 0) && ((rightA b.fw).2 == 0)) && (rightL b.lan).1) && (rightA b.fw).1
theorem true2L_calls (g0 g1 g2 g3 g4 : Value) (b : XBook) (w : World) (r0 : Reads w g0 2 b.lan.tides encSpan zSpan) (r1 : Reads w g1 3 b.lan.sounds encSound zSound) (r2 : Reads w g2 5 b.fw.ships encShip zShip) (r3 : Reads w g3 4 b.fw.sights encSight zSight) (r4 : Reads w g4 2 b.trips encTrip zTrip) (ha : AsksAt w) (hun : UnknownAt w) (hnw0 : NowhereAt w) : Calls Tryd.prog 17 #[.agg ((xV g0 b g1 g2 g3 g4).toArray)] w fun e w' => e = .returned (.bool (true2L b)) ∧ Below w.heap.size w w' := by
 refine CW tt_ok [g0, g1, g2, g3, g4] 5 [.g (xQ b)] (roX b [(5, .pf AsksAt (· = 5)), (6, .pf UnknownAt (· = 4)), (7, .pf NowhereAt (· = 3))]) 8 Tryd.func17 rfl rfl rfl (by simp [r0.one, r1.one, r2.one, r3.one, r4.one]) ⟨ro_in r0, ro_in r1, ro_in r2, ro_in r3, ro_in r4, pf_in ha, pf_in hun, pf_in hnw0, trivial⟩ ?_
 have hl0 := Reads.len r0
 have hl1 := Reads.len r1
 have hl2 := Reads.len r2
 have hl3 := Reads.len r3
 have hl4 := Reads.len r4
 refine WSA tt_ok ?_
 refine WSR tt_ok 2 ?_
 refine CAL 52 [.g (lR b.lan)] (.t [(false, [.bool (rightL b.lan).1]), (false, [.int .i64 (rightL b.lan).2])]) [] (fun hG nV w h => rightL_calls (nV 0) (nV 1) b.lan w (h.rd 0 24) (h.rd 1 112) (h.ft 6 4) (h.ft 7 3) ) ?_
 refine WPA tt_ok ?_
 refine WSR tt_ok 2 ?_
 refine CAL 53 [.g [.ref 2, .int .i64 b.fw.hear.lo, .int .i64 b.fw.hear.hi, .int .i64 b.fw.br, .int .i64 b.fw.cr, .int .i64 b.fw.sl, .ref 3]] (.t [(false, [.bool (rightA b.fw).1]), (false, [.int .i64 (rightA b.fw).2])]) [] (fun hG nV w h => rightA_calls (nV 2) (nV 3) b.fw w (h.rd 2 103) (h.rd 3 105) ) ?_
 refine WPA tt_ok ?_
 refine WSA tt_ok ?_
 refine WP_ret ?_
 exact ⟨.s (.bool (((((rightL b.lan).2 == 0) && ((rightA b.fw).2 == 0)) && (rightL b.lan).1) && (rightA b.fw).1)), by kernel_rfl, fun nV w' h => ⟨by rw [show true2L b = (((((rightL b.lan).2 == 0) && ((rightA b.fw).2 == 0)) && (rightL b.lan).1) && (rightA b.fw).1) from rfl]; rfl, h.bel⟩⟩
def sureL (b : XBook) (shore : Int) (load : Int) (minute : Int) : Bool :=
 ((sureA b shore load minute).2 == 0) && ((sureA b shore load minute).1 == 2)
theorem sureL_calls (g0 g1 g2 g3 g4 : Value) (b : XBook) (shore : Int) (load : Int) (minute : Int) (w : World) (r0 : Reads w g0 2 b.lan.tides encSpan zSpan) (r1 : Reads w g1 3 b.lan.sounds encSound zSound) (r2 : Reads w g2 5 b.fw.ships encShip zShip) (r3 : Reads w g3 4 b.fw.sights encSight zSight) (r4 : Reads w g4 2 b.trips encTrip zTrip) (ha : AsksAt w) (hun : UnknownAt w) (hnw0 : NowhereAt w) (hla : LAsksAt w) (hsd : SidesAt w) (hxn : XNowhereAt w) : Calls Tryd.prog 20 #[.agg ((xV g0 b g1 g2 g3 g4).toArray), iv shore, iv load, iv minute] w fun e w' => e = .returned (.bool (sureL b shore load minute)) ∧ Below w.heap.size w w' := by
 refine CW tt_ok [g0, g1, g2, g3, g4] 5 [.g (xQ b), .s (.int .i64 shore), .s (.int .i64 load), .s (.int .i64 minute)] (roX b ((5, .pf AsksAt (· = 5)) :: hp5)) 11 Tryd.func20 rfl rfl rfl (by simp [r0.one, r1.one, r2.one, r3.one, r4.one]) ⟨ro_in r0, ro_in r1, ro_in r2, ro_in r3, ro_in r4, pf_in ha, pf_in hun, pf_in hnw0, pf_in hla, pf_in hsd, pf_in hxn, trivial⟩ ?_
 have hl0 := Reads.len r0
 have hl1 := Reads.len r1
 have hl2 := Reads.len r2
 have hl3 := Reads.len r3
 have hl4 := Reads.len r4
 refine WSA tt_ok ?_
 refine WSR tt_ok 4 ?_
 refine CAL 16 [.g (xQ b), .s (.int .i64 shore), .s (.int .i64 load), .s (.int .i64 minute)] (.t [(false, [.int .i64 (sureA b shore load minute).1]), (false, [.int .i64 (sureA b shore load minute).2])]) [] (fun hG nV w h => sureA_calls (nV 0) (nV 1) (nV 2) (nV 3) (nV 4) b shore load minute w (h.rd 0 24) (h.rd 1 112) (h.rd 2 103) (h.rd 3 105) (h.rd 4 60) (h.ft 5 5) (h.ft 6 4) (h.ft 7 3) (h.ft 8 1) (h.ft 9 0) (h.ft 10 2) ) ?_
 refine WPA tt_ok ?_
 refine WSA tt_ok ?_
 refine WP_ret ?_
 exact ⟨.s (.bool (((sureA b shore load minute).2 == 0) && ((sureA b shore load minute).1 == 2))), by kernel_rfl, fun nV w' h => ⟨by rw [show sureL b shore load minute = (((sureA b shore load minute).2 == 0) && ((sureA b shore load minute).1 == 2)) from rfl]; rfl, h.bel⟩⟩
theorem loopR_off {ρ : Type} {c : Nat → Bool → Bool} {b : Nat → Bool → Bd Bool ρ} {N : Nat} (h : ∀ k, c k false = false) : loopR c b N 0 false = .brk false := by
 cases N with
 | zero => rfl
 | succ n => simp [loopR, h]
theorem sound_valid {b : XBook} (h : (!(soundL b)) = false) : ValidX b := by
 simp only [Bool.not_eq_false'] at h
 refine checkX_valid.1 ?_
 cases hc : (checkX b == 0) with
 | true => exact eq_of_beq hc
 | false =>
  unfold soundL at h
  rw [hc] at h
  simp only [Bool.false_and] at h
  rw [loopR_off (fun k => by simp only [soundL_c1, Bool.false_and])] at h
  cases h
theorem ferriedL_is (hfe : ferriedL = true) (w : World) (ha : AsksAt w) (hun : UnknownAt w) (hnw0 : NowhereAt w) (hla : LAsksAt w) (hsd : SidesAt w) (hxn : XNowhereAt w) : Calls Tryd.prog 14 #[] w fun e w' => e = .returned (.bool true) ∧ Below w.heap.size w w' := by
 rw [← hfe]
 exact ferriedL_calls w ha hun hnw0 hla hsd hxn
end Go.Proofs.YtpfglknbkpcfnaaDoor.X
namespace Go.Proofs.YtpfglknbkpcfnaaDoor.X
open Go Go.ChangeShapes Go.WideShapes Go.RowKit Go.Proofs.YtpfglknbkpcfnaaDoor.Eng Go.Proofs.YtpfglknbkpcfnaaDoor.Fw
set_option maxRecDepth 100000
theorem app_eq {a b c d : List Value} (h : a = b) (k : c = d) : a ++ c = b ++ d := by rw [h, k]
theorem opn3 {w : World} : Opn Tryd.prog w 3 (fun cs => ∃ (b : Int), cs = [iv b] ∧ i64B b ∧ True) := (Opn_int Tryd.underlying3).mono fun cs ⟨n, h1, h2⟩ => ⟨n, h1, h2, trivial⟩
theorem opn24 {w : World} : Opn Tryd.prog w 24 (fun cs => ∃ (b : Span), cs = [iv b.lo, iv b.hi] ∧ i64B b.lo ∧ i64B b.hi ∧ True) :=
 (Opn_parts (P := Tryd.prog) (w := w) [⟨0, 3, 1, (fun cs => ∃ (b : Int), cs = [iv b] ∧ i64B b ∧ True)⟩, ⟨1, 3, 1, (fun cs => ∃ (b : Int), cs = [iv b] ∧ i64B b ∧ True)⟩] 2 Tryd.underlying24 (by kernel_rfl) (by kernel_rfl) ⟨opn3, opn3, trivial⟩).mono fun cs h => by
  obtain ⟨hl, ⟨b0, e0, f0_0, _⟩, ⟨b1, e1, f1_0, _⟩, _⟩ := h
  exact ⟨(⟨b0, b1⟩ : Span), (tl 0 1 cs).trans (app_eq e0 ((tl 1 1 cs).trans (app_eq e1 (tlz hl)))), f0_0, f1_0, trivial⟩
theorem opn22 {w : World} : Opn Tryd.prog w 22 (fun cs => ∃ (g0 : Value) (b : List Span), cs = [g0] ∧ (Reads w g0 2 b encSpan zSpan ∧ (∀ a ∈ b, i64B a.lo ∧ i64B a.hi) ∧ b.length * 16 ≤ reachBytes) ∧ True) := (Opn_slice (encA := encSpan) (z := zSpan) (ok := (fun a : Span => i64B a.lo ∧ i64B a.hi)) (sz := 2) Tryd.underlying22 (by kernel_rfl) (opn24.mono fun cs ⟨a, h1, k0, k1, _⟩ => ⟨a, h1, ⟨k0, k1⟩⟩)).mono fun cs ⟨v, l, h1, h2, h3, h4⟩ => ⟨v, l, h1, ⟨h2, h3, h4⟩, trivial⟩
theorem opn26 {w : World} : Opn Tryd.prog w 26 (fun cs => ∃ (b : LShore), cs = [iv b.fl.lo, iv b.fl.hi, iv b.lo, iv b.hi] ∧ i64B b.fl.lo ∧ i64B b.fl.hi ∧ i64B b.lo ∧ i64B b.hi ∧ True) :=
 (Opn_parts (P := Tryd.prog) (w := w) [⟨0, 24, 2, (fun cs => ∃ (b : Span), cs = [iv b.lo, iv b.hi] ∧ i64B b.lo ∧ i64B b.hi ∧ True)⟩, ⟨2, 3, 1, (fun cs => ∃ (b : Int), cs = [iv b] ∧ i64B b ∧ True)⟩, ⟨3, 3, 1, (fun cs => ∃ (b : Int), cs = [iv b] ∧ i64B b ∧ True)⟩] 4 Tryd.underlying26 (by kernel_rfl) (by kernel_rfl) ⟨opn24, opn3, opn3, trivial⟩).mono fun cs h => by
  obtain ⟨hl, ⟨b0, e0, f0_0, f0_1, _⟩, ⟨b1, e1, f1_0, _⟩, ⟨b2, e2, f2_0, _⟩, _⟩ := h
  exact ⟨(⟨b0, b1, b2⟩ : LShore), (tl 0 2 cs).trans (app_eq e0 ((tl 2 1 cs).trans (app_eq e1 ((tl 3 1 cs).trans (app_eq e2 (tlz hl)))))), f0_0, f0_1, f1_0, f2_0, trivial⟩
theorem opn27 {w : World} : Opn Tryd.prog w 27 (fun cs => ∃ (b : LShore × LShore), cs = [iv b.1.fl.lo, iv b.1.fl.hi, iv b.1.lo, iv b.1.hi, iv b.2.fl.lo, iv b.2.fl.hi, iv b.2.lo, iv b.2.hi] ∧ i64B b.1.fl.lo ∧ i64B b.1.fl.hi ∧ i64B b.1.lo ∧ i64B b.1.hi ∧ i64B b.2.fl.lo ∧ i64B b.2.fl.hi ∧ i64B b.2.lo ∧ i64B b.2.hi ∧ True) :=
 (Opn_arr (P := Tryd.prog) (w := w) 4 8 _ Tryd.underlying27 (by kernel_rfl) (by kernel_rfl) opn26).mono fun cs h => by
  obtain ⟨hl, h⟩ := h
  obtain ⟨b0, e0, f0_0, f0_1, f0_2, f0_3, _⟩ := h 0 (by decide)
  obtain ⟨b1, e1, f1_0, f1_1, f1_2, f1_3, _⟩ := h 1 (by decide)
  exact ⟨(b0, b1), (tl 0 4 cs).trans (app_eq e0 ((tl 4 4 cs).trans (app_eq e1 (tlz hl)))), f0_0, f0_1, f0_2, f0_3, f1_0, f1_1, f1_2, f1_3, trivial⟩
theorem opn112 {w : World} : Opn Tryd.prog w 112 (fun cs => ∃ (b : LSound), cs = [iv b.hr, iv b.sh, iv b.dp] ∧ i64B b.hr ∧ i64B b.sh ∧ i64B b.dp ∧ True) :=
 (Opn_parts (P := Tryd.prog) (w := w) [⟨0, 3, 1, (fun cs => ∃ (b : Int), cs = [iv b] ∧ i64B b ∧ True)⟩, ⟨1, 3, 1, (fun cs => ∃ (b : Int), cs = [iv b] ∧ i64B b ∧ True)⟩, ⟨2, 3, 1, (fun cs => ∃ (b : Int), cs = [iv b] ∧ i64B b ∧ True)⟩] 3 Tryd.underlying112 (by kernel_rfl) (by kernel_rfl) ⟨opn3, opn3, opn3, trivial⟩).mono fun cs h => by
  obtain ⟨hl, ⟨b0, e0, f0_0, _⟩, ⟨b1, e1, f1_0, _⟩, ⟨b2, e2, f2_0, _⟩, _⟩ := h
  exact ⟨(⟨b0, b1, b2⟩ : LSound), (tl 0 1 cs).trans (app_eq e0 ((tl 1 1 cs).trans (app_eq e1 ((tl 2 1 cs).trans (app_eq e2 (tlz hl)))))), f0_0, f1_0, f2_0, trivial⟩
theorem opn28 {w : World} : Opn Tryd.prog w 28 (fun cs => ∃ (g0 : Value) (b : List LSound), cs = [g0] ∧ (Reads w g0 3 b encSound zSound ∧ (∀ a ∈ b, i64B a.hr ∧ i64B a.sh ∧ i64B a.dp) ∧ b.length * 24 ≤ reachBytes) ∧ True) := (Opn_slice (encA := encSound) (z := zSound) (ok := (fun a : LSound => i64B a.hr ∧ i64B a.sh ∧ i64B a.dp)) (sz := 3) Tryd.underlying28 (by kernel_rfl) (opn112.mono fun cs ⟨a, h1, k0, k1, k2, _⟩ => ⟨a, h1, ⟨k0, k1, k2⟩⟩)).mono fun cs ⟨v, l, h1, h2, h3, h4⟩ => ⟨v, l, h1, ⟨h2, h3, h4⟩, trivial⟩
theorem opn30 {w : World} : Opn Tryd.prog w 30 (fun cs => ∃ (g0 g1 : Value) (b : LBook), cs = [g0, iv b.shores.1.fl.lo, iv b.shores.1.fl.hi, iv b.shores.1.lo, iv b.shores.1.hi, iv b.shores.2.fl.lo, iv b.shores.2.fl.hi, iv b.shores.2.lo, iv b.shores.2.hi, iv b.empty.lo, iv b.empty.hi, iv b.sink, iv b.under, g1] ∧ (Reads w g0 2 b.tides encSpan zSpan ∧ (∀ a ∈ b.tides, i64B a.lo ∧ i64B a.hi) ∧ b.tides.length * 16 ≤ reachBytes) ∧ (Reads w g1 3 b.sounds encSound zSound ∧ (∀ a ∈ b.sounds, i64B a.hr ∧ i64B a.sh ∧ i64B a.dp) ∧ b.sounds.length * 24 ≤ reachBytes) ∧ i64B b.shores.1.fl.lo ∧ i64B b.shores.1.fl.hi ∧ i64B b.shores.1.lo ∧ i64B b.shores.1.hi ∧ i64B b.shores.2.fl.lo ∧ i64B b.shores.2.fl.hi ∧ i64B b.shores.2.lo ∧ i64B b.shores.2.hi ∧ i64B b.empty.lo ∧ i64B b.empty.hi ∧ i64B b.sink ∧ i64B b.under ∧ True) :=
 (Opn_parts (P := Tryd.prog) (w := w) [⟨0, 22, 1, (fun cs => ∃ (g0 : Value) (b : List Span), cs = [g0] ∧ (Reads w g0 2 b encSpan zSpan ∧ (∀ a ∈ b, i64B a.lo ∧ i64B a.hi) ∧ b.length * 16 ≤ reachBytes) ∧ True)⟩, ⟨1, 27, 8, (fun cs => ∃ (b : LShore × LShore), cs = [iv b.1.fl.lo, iv b.1.fl.hi, iv b.1.lo, iv b.1.hi, iv b.2.fl.lo, iv b.2.fl.hi, iv b.2.lo, iv b.2.hi] ∧ i64B b.1.fl.lo ∧ i64B b.1.fl.hi ∧ i64B b.1.lo ∧ i64B b.1.hi ∧ i64B b.2.fl.lo ∧ i64B b.2.fl.hi ∧ i64B b.2.lo ∧ i64B b.2.hi ∧ True)⟩, ⟨9, 24, 2, (fun cs => ∃ (b : Span), cs = [iv b.lo, iv b.hi] ∧ i64B b.lo ∧ i64B b.hi ∧ True)⟩, ⟨11, 3, 1, (fun cs => ∃ (b : Int), cs = [iv b] ∧ i64B b ∧ True)⟩, ⟨12, 3, 1, (fun cs => ∃ (b : Int), cs = [iv b] ∧ i64B b ∧ True)⟩, ⟨13, 28, 1, (fun cs => ∃ (g0 : Value) (b : List LSound), cs = [g0] ∧ (Reads w g0 3 b encSound zSound ∧ (∀ a ∈ b, i64B a.hr ∧ i64B a.sh ∧ i64B a.dp) ∧ b.length * 24 ≤ reachBytes) ∧ True)⟩] 14 Tryd.underlying30 (by kernel_rfl) (by kernel_rfl) ⟨opn22, opn27, opn24, opn3, opn3, opn28, trivial⟩).mono fun cs h => by
  obtain ⟨hl, ⟨p0_0, b0, e0, f0_0, _⟩, ⟨b1, e1, f1_0, f1_1, f1_2, f1_3, f1_4, f1_5, f1_6, f1_7, _⟩, ⟨b2, e2, f2_0, f2_1, _⟩, ⟨b3, e3, f3_0, _⟩, ⟨b4, e4, f4_0, _⟩, ⟨p5_0, b5, e5, f5_0, _⟩, _⟩ := h
  exact ⟨p0_0, p5_0, (⟨b0, b1, b2, b3, b4, b5⟩ : LBook), (tl 0 1 cs).trans (app_eq e0 ((tl 1 8 cs).trans (app_eq e1 ((tl 9 2 cs).trans (app_eq e2 ((tl 11 1 cs).trans (app_eq e3 ((tl 12 1 cs).trans (app_eq e4 ((tl 13 1 cs).trans (app_eq e5 (tlz hl)))))))))))), f0_0, f5_0, f1_0, f1_1, f1_2, f1_3, f1_4, f1_5, f1_6, f1_7, f2_0, f2_1, f3_0, f4_0, trivial⟩
theorem opn103 {w : World} : Opn Tryd.prog w 103 (fun cs => ∃ (b : Ship), cs = [iv b.m, iv b.aw.lo, iv b.aw.hi, iv b.sp.lo, iv b.sp.hi] ∧ i64B b.m ∧ i64B b.aw.lo ∧ i64B b.aw.hi ∧ i64B b.sp.lo ∧ i64B b.sp.hi ∧ True) :=
 (Opn_parts (P := Tryd.prog) (w := w) [⟨0, 3, 1, (fun cs => ∃ (b : Int), cs = [iv b] ∧ i64B b ∧ True)⟩, ⟨1, 24, 2, (fun cs => ∃ (b : Span), cs = [iv b.lo, iv b.hi] ∧ i64B b.lo ∧ i64B b.hi ∧ True)⟩, ⟨3, 24, 2, (fun cs => ∃ (b : Span), cs = [iv b.lo, iv b.hi] ∧ i64B b.lo ∧ i64B b.hi ∧ True)⟩] 5 Tryd.underlying103 (by kernel_rfl) (by kernel_rfl) ⟨opn3, opn24, opn24, trivial⟩).mono fun cs h => by
  obtain ⟨hl, ⟨b0, e0, f0_0, _⟩, ⟨b1, e1, f1_0, f1_1, _⟩, ⟨b2, e2, f2_0, f2_1, _⟩, _⟩ := h
  exact ⟨(⟨b0, b1, b2⟩ : Ship), (tl 0 1 cs).trans (app_eq e0 ((tl 1 2 cs).trans (app_eq e1 ((tl 3 2 cs).trans (app_eq e2 (tlz hl)))))), f0_0, f1_0, f1_1, f2_0, f2_1, trivial⟩
theorem opn31 {w : World} : Opn Tryd.prog w 31 (fun cs => ∃ (g0 : Value) (b : List Ship), cs = [g0] ∧ (Reads w g0 5 b encShip zShip ∧ (∀ a ∈ b, i64B a.m ∧ i64B a.aw.lo ∧ i64B a.aw.hi ∧ i64B a.sp.lo ∧ i64B a.sp.hi) ∧ b.length * 40 ≤ reachBytes) ∧ True) := (Opn_slice (encA := encShip) (z := zShip) (ok := (fun a : Ship => i64B a.m ∧ i64B a.aw.lo ∧ i64B a.aw.hi ∧ i64B a.sp.lo ∧ i64B a.sp.hi)) (sz := 5) Tryd.underlying31 (by kernel_rfl) (opn103.mono fun cs ⟨a, h1, k0, k1, k2, k3, k4, _⟩ => ⟨a, h1, ⟨k0, k1, k2, k3, k4⟩⟩)).mono fun cs ⟨v, l, h1, h2, h3, h4⟩ => ⟨v, l, h1, ⟨h2, h3, h4⟩, trivial⟩
theorem opn105 {w : World} : Opn Tryd.prog w 105 (fun cs => ∃ (b : Sight), cs = [iv b.ship, iv b.m, iv b.aw.lo, iv b.aw.hi] ∧ i64B b.ship ∧ i64B b.m ∧ i64B b.aw.lo ∧ i64B b.aw.hi ∧ True) :=
 (Opn_parts (P := Tryd.prog) (w := w) [⟨0, 3, 1, (fun cs => ∃ (b : Int), cs = [iv b] ∧ i64B b ∧ True)⟩, ⟨1, 3, 1, (fun cs => ∃ (b : Int), cs = [iv b] ∧ i64B b ∧ True)⟩, ⟨2, 24, 2, (fun cs => ∃ (b : Span), cs = [iv b.lo, iv b.hi] ∧ i64B b.lo ∧ i64B b.hi ∧ True)⟩] 4 Tryd.underlying105 (by kernel_rfl) (by kernel_rfl) ⟨opn3, opn3, opn24, trivial⟩).mono fun cs h => by
  obtain ⟨hl, ⟨b0, e0, f0_0, _⟩, ⟨b1, e1, f1_0, _⟩, ⟨b2, e2, f2_0, f2_1, _⟩, _⟩ := h
  exact ⟨(⟨b0, b1, b2⟩ : Sight), (tl 0 1 cs).trans (app_eq e0 ((tl 1 1 cs).trans (app_eq e1 ((tl 2 2 cs).trans (app_eq e2 (tlz hl)))))), f0_0, f1_0, f2_0, f2_1, trivial⟩
theorem opn32 {w : World} : Opn Tryd.prog w 32 (fun cs => ∃ (g0 : Value) (b : List Sight), cs = [g0] ∧ (Reads w g0 4 b encSight zSight ∧ (∀ a ∈ b, i64B a.ship ∧ i64B a.m ∧ i64B a.aw.lo ∧ i64B a.aw.hi) ∧ b.length * 32 ≤ reachBytes) ∧ True) := (Opn_slice (encA := encSight) (z := zSight) (ok := (fun a : Sight => i64B a.ship ∧ i64B a.m ∧ i64B a.aw.lo ∧ i64B a.aw.hi)) (sz := 4) Tryd.underlying32 (by kernel_rfl) (opn105.mono fun cs ⟨a, h1, k0, k1, k2, k3, _⟩ => ⟨a, h1, ⟨k0, k1, k2, k3⟩⟩)).mono fun cs ⟨v, l, h1, h2, h3, h4⟩ => ⟨v, l, h1, ⟨h2, h3, h4⟩, trivial⟩
theorem opn34 {w : World} : Opn Tryd.prog w 34 (fun cs => ∃ (g0 g1 : Value) (b : Book), cs = [g0, iv b.hear.lo, iv b.hear.hi, iv b.br, iv b.cr, iv b.sl, g1] ∧ (Reads w g0 5 b.ships encShip zShip ∧ (∀ a ∈ b.ships, i64B a.m ∧ i64B a.aw.lo ∧ i64B a.aw.hi ∧ i64B a.sp.lo ∧ i64B a.sp.hi) ∧ b.ships.length * 40 ≤ reachBytes) ∧ (Reads w g1 4 b.sights encSight zSight ∧ (∀ a ∈ b.sights, i64B a.ship ∧ i64B a.m ∧ i64B a.aw.lo ∧ i64B a.aw.hi) ∧ b.sights.length * 32 ≤ reachBytes) ∧ i64B b.hear.lo ∧ i64B b.hear.hi ∧ i64B b.br ∧ i64B b.cr ∧ i64B b.sl ∧ True) :=
 (Opn_parts (P := Tryd.prog) (w := w) [⟨0, 31, 1, (fun cs => ∃ (g0 : Value) (b : List Ship), cs = [g0] ∧ (Reads w g0 5 b encShip zShip ∧ (∀ a ∈ b, i64B a.m ∧ i64B a.aw.lo ∧ i64B a.aw.hi ∧ i64B a.sp.lo ∧ i64B a.sp.hi) ∧ b.length * 40 ≤ reachBytes) ∧ True)⟩, ⟨1, 24, 2, (fun cs => ∃ (b : Span), cs = [iv b.lo, iv b.hi] ∧ i64B b.lo ∧ i64B b.hi ∧ True)⟩, ⟨3, 3, 1, (fun cs => ∃ (b : Int), cs = [iv b] ∧ i64B b ∧ True)⟩, ⟨4, 3, 1, (fun cs => ∃ (b : Int), cs = [iv b] ∧ i64B b ∧ True)⟩, ⟨5, 3, 1, (fun cs => ∃ (b : Int), cs = [iv b] ∧ i64B b ∧ True)⟩, ⟨6, 32, 1, (fun cs => ∃ (g0 : Value) (b : List Sight), cs = [g0] ∧ (Reads w g0 4 b encSight zSight ∧ (∀ a ∈ b, i64B a.ship ∧ i64B a.m ∧ i64B a.aw.lo ∧ i64B a.aw.hi) ∧ b.length * 32 ≤ reachBytes) ∧ True)⟩] 7 Tryd.underlying34 (by kernel_rfl) (by kernel_rfl) ⟨opn31, opn24, opn3, opn3, opn3, opn32, trivial⟩).mono fun cs h => by
  obtain ⟨hl, ⟨p0_0, b0, e0, f0_0, _⟩, ⟨b1, e1, f1_0, f1_1, _⟩, ⟨b2, e2, f2_0, _⟩, ⟨b3, e3, f3_0, _⟩, ⟨b4, e4, f4_0, _⟩, ⟨p5_0, b5, e5, f5_0, _⟩, _⟩ := h
  exact ⟨p0_0, p5_0, (⟨b0, b1, b2, b3, b4, b5⟩ : Book), (tl 0 1 cs).trans (app_eq e0 ((tl 1 2 cs).trans (app_eq e1 ((tl 3 1 cs).trans (app_eq e2 ((tl 4 1 cs).trans (app_eq e3 ((tl 5 1 cs).trans (app_eq e4 ((tl 6 1 cs).trans (app_eq e5 (tlz hl)))))))))))), f0_0, f5_0, f1_0, f1_1, f2_0, f3_0, f4_0, trivial⟩
theorem opn60 {w : World} : Opn Tryd.prog w 60 (fun cs => ∃ (b : Trip), cs = [iv b.load, iv b.ready] ∧ i64B b.load ∧ i64B b.ready ∧ True) :=
 (Opn_parts (P := Tryd.prog) (w := w) [⟨0, 3, 1, (fun cs => ∃ (b : Int), cs = [iv b] ∧ i64B b ∧ True)⟩, ⟨1, 3, 1, (fun cs => ∃ (b : Int), cs = [iv b] ∧ i64B b ∧ True)⟩] 2 Tryd.underlying60 (by kernel_rfl) (by kernel_rfl) ⟨opn3, opn3, trivial⟩).mono fun cs h => by
  obtain ⟨hl, ⟨b0, e0, f0_0, _⟩, ⟨b1, e1, f1_0, _⟩, _⟩ := h
  exact ⟨(⟨b0, b1⟩ : Trip), (tl 0 1 cs).trans (app_eq e0 ((tl 1 1 cs).trans (app_eq e1 (tlz hl)))), f0_0, f1_0, trivial⟩
theorem opn35 {w : World} : Opn Tryd.prog w 35 (fun cs => ∃ (g0 : Value) (b : List Trip), cs = [g0] ∧ (Reads w g0 2 b encTrip zTrip ∧ (∀ a ∈ b, i64B a.load ∧ i64B a.ready) ∧ b.length * 16 ≤ reachBytes) ∧ True) := (Opn_slice (encA := encTrip) (z := zTrip) (ok := (fun a : Trip => i64B a.load ∧ i64B a.ready)) (sz := 2) Tryd.underlying35 (by kernel_rfl) (opn60.mono fun cs ⟨a, h1, k0, k1, _⟩ => ⟨a, h1, ⟨k0, k1⟩⟩)).mono fun cs ⟨v, l, h1, h2, h3, h4⟩ => ⟨v, l, h1, ⟨h2, h3, h4⟩, trivial⟩
theorem opn37 {w : World} : Opn Tryd.prog w 37 (fun cs => ∃ (g0 g1 g2 g3 g4 : Value) (b : XBook), cs = [g0, iv b.lan.shores.1.fl.lo, iv b.lan.shores.1.fl.hi, iv b.lan.shores.1.lo, iv b.lan.shores.1.hi, iv b.lan.shores.2.fl.lo, iv b.lan.shores.2.fl.hi, iv b.lan.shores.2.lo, iv b.lan.shores.2.hi, iv b.lan.empty.lo, iv b.lan.empty.hi, iv b.lan.sink, iv b.lan.under, g1, g2, iv b.fw.hear.lo, iv b.fw.hear.hi, iv b.fw.br, iv b.fw.cr, iv b.fw.sl, g3, iv b.each, iv b.shore, iv b.turn, g4] ∧ (Reads w g0 2 b.lan.tides encSpan zSpan ∧ (∀ a ∈ b.lan.tides, i64B a.lo ∧ i64B a.hi) ∧ b.lan.tides.length * 16 ≤ reachBytes) ∧ (Reads w g1 3 b.lan.sounds encSound zSound ∧ (∀ a ∈ b.lan.sounds, i64B a.hr ∧ i64B a.sh ∧ i64B a.dp) ∧ b.lan.sounds.length * 24 ≤ reachBytes) ∧ (Reads w g2 5 b.fw.ships encShip zShip ∧ (∀ a ∈ b.fw.ships, i64B a.m ∧ i64B a.aw.lo ∧ i64B a.aw.hi ∧ i64B a.sp.lo ∧ i64B a.sp.hi) ∧ b.fw.ships.length * 40 ≤ reachBytes) ∧ (Reads w g3 4 b.fw.sights encSight zSight ∧ (∀ a ∈ b.fw.sights, i64B a.ship ∧ i64B a.m ∧ i64B a.aw.lo ∧ i64B a.aw.hi) ∧ b.fw.sights.length * 32 ≤ reachBytes) ∧ (Reads w g4 2 b.trips encTrip zTrip ∧ (∀ a ∈ b.trips, i64B a.load ∧ i64B a.ready) ∧ b.trips.length * 16 ≤ reachBytes) ∧ i64B b.lan.shores.1.fl.lo ∧ i64B b.lan.shores.1.fl.hi ∧ i64B b.lan.shores.1.lo ∧ i64B b.lan.shores.1.hi ∧ i64B b.lan.shores.2.fl.lo ∧ i64B b.lan.shores.2.fl.hi ∧ i64B b.lan.shores.2.lo ∧ i64B b.lan.shores.2.hi ∧ i64B b.lan.empty.lo ∧ i64B b.lan.empty.hi ∧ i64B b.lan.sink ∧ i64B b.lan.under ∧ i64B b.fw.hear.lo ∧ i64B b.fw.hear.hi ∧ i64B b.fw.br ∧ i64B b.fw.cr ∧ i64B b.fw.sl ∧ i64B b.each ∧ i64B b.shore ∧ i64B b.turn ∧ True) :=
 (Opn_parts (P := Tryd.prog) (w := w) [⟨0, 30, 14, (fun cs => ∃ (g0 g1 : Value) (b : LBook), cs = [g0, iv b.shores.1.fl.lo, iv b.shores.1.fl.hi, iv b.shores.1.lo, iv b.shores.1.hi, iv b.shores.2.fl.lo, iv b.shores.2.fl.hi, iv b.shores.2.lo, iv b.shores.2.hi, iv b.empty.lo, iv b.empty.hi, iv b.sink, iv b.under, g1] ∧ (Reads w g0 2 b.tides encSpan zSpan ∧ (∀ a ∈ b.tides, i64B a.lo ∧ i64B a.hi) ∧ b.tides.length * 16 ≤ reachBytes) ∧ (Reads w g1 3 b.sounds encSound zSound ∧ (∀ a ∈ b.sounds, i64B a.hr ∧ i64B a.sh ∧ i64B a.dp) ∧ b.sounds.length * 24 ≤ reachBytes) ∧ i64B b.shores.1.fl.lo ∧ i64B b.shores.1.fl.hi ∧ i64B b.shores.1.lo ∧ i64B b.shores.1.hi ∧ i64B b.shores.2.fl.lo ∧ i64B b.shores.2.fl.hi ∧ i64B b.shores.2.lo ∧ i64B b.shores.2.hi ∧ i64B b.empty.lo ∧ i64B b.empty.hi ∧ i64B b.sink ∧ i64B b.under ∧ True)⟩, ⟨14, 34, 7, (fun cs => ∃ (g0 g1 : Value) (b : Book), cs = [g0, iv b.hear.lo, iv b.hear.hi, iv b.br, iv b.cr, iv b.sl, g1] ∧ (Reads w g0 5 b.ships encShip zShip ∧ (∀ a ∈ b.ships, i64B a.m ∧ i64B a.aw.lo ∧ i64B a.aw.hi ∧ i64B a.sp.lo ∧ i64B a.sp.hi) ∧ b.ships.length * 40 ≤ reachBytes) ∧ (Reads w g1 4 b.sights encSight zSight ∧ (∀ a ∈ b.sights, i64B a.ship ∧ i64B a.m ∧ i64B a.aw.lo ∧ i64B a.aw.hi) ∧ b.sights.length * 32 ≤ reachBytes) ∧ i64B b.hear.lo ∧ i64B b.hear.hi ∧ i64B b.br ∧ i64B b.cr ∧ i64B b.sl ∧ True)⟩, ⟨21, 3, 1, (fun cs => ∃ (b : Int), cs = [iv b] ∧ i64B b ∧ True)⟩, ⟨22, 3, 1, (fun cs => ∃ (b : Int), cs = [iv b] ∧ i64B b ∧ True)⟩, ⟨23, 3, 1, (fun cs => ∃ (b : Int), cs = [iv b] ∧ i64B b ∧ True)⟩, ⟨24, 35, 1, (fun cs => ∃ (g0 : Value) (b : List Trip), cs = [g0] ∧ (Reads w g0 2 b encTrip zTrip ∧ (∀ a ∈ b, i64B a.load ∧ i64B a.ready) ∧ b.length * 16 ≤ reachBytes) ∧ True)⟩] 25 Tryd.underlying37 (by kernel_rfl) (by kernel_rfl) ⟨opn30, opn34, opn3, opn3, opn3, opn35, trivial⟩).mono fun cs h => by
  obtain ⟨hl, ⟨p0_0, p0_1, b0, e0, f0_0, f0_1, f0_2, f0_3, f0_4, f0_5, f0_6, f0_7, f0_8, f0_9, f0_10, f0_11, f0_12, f0_13, _⟩, ⟨p1_0, p1_1, b1, e1, f1_0, f1_1, f1_2, f1_3, f1_4, f1_5, f1_6, _⟩, ⟨b2, e2, f2_0, _⟩, ⟨b3, e3, f3_0, _⟩, ⟨b4, e4, f4_0, _⟩, ⟨p5_0, b5, e5, f5_0, _⟩, _⟩ := h
  exact ⟨p0_0, p0_1, p1_0, p1_1, p5_0, (⟨b0, b1, b2, b3, b4, b5⟩ : XBook), (tl 0 14 cs).trans (app_eq e0 ((tl 14 7 cs).trans (app_eq e1 ((tl 21 1 cs).trans (app_eq e2 ((tl 22 1 cs).trans (app_eq e3 ((tl 23 1 cs).trans (app_eq e4 ((tl 24 1 cs).trans (app_eq e5 (tlz hl)))))))))))), f0_0, f0_1, f1_0, f1_1, f5_0, f0_2, f0_3, f0_4, f0_5, f0_6, f0_7, f0_8, f0_9, f0_10, f0_11, f0_12, f0_13, f1_2, f1_3, f1_4, f1_5, f1_6, f2_0, f3_0, f4_0, trivial⟩
theorem opn47 {w : World} : Opn Tryd.prog w 47 (fun cs => ∃ (b : Int × Int × Int × Int), cs = [iv b.1, iv b.2.1, iv b.2.2.1, iv b.2.2.2] ∧ i64B b.1 ∧ i64B b.2.1 ∧ i64B b.2.2.1 ∧ i64B b.2.2.2 ∧ True) :=
 (Opn_arr (P := Tryd.prog) (w := w) 1 4 _ Tryd.underlying47 (by kernel_rfl) (by kernel_rfl) opn3).mono fun cs h => by
  obtain ⟨hl, h⟩ := h
  obtain ⟨b0, e0, f0_0, _⟩ := h 0 (by decide)
  obtain ⟨b1, e1, f1_0, _⟩ := h 1 (by decide)
  obtain ⟨b2, e2, f2_0, _⟩ := h 2 (by decide)
  obtain ⟨b3, e3, f3_0, _⟩ := h 3 (by decide)
  exact ⟨(b0, b1, b2, b3), (tl 0 1 cs).trans (app_eq e0 ((tl 1 1 cs).trans (app_eq e1 ((tl 2 1 cs).trans (app_eq e2 ((tl 3 1 cs).trans (app_eq e3 (tlz hl)))))))), f0_0, f1_0, f2_0, f3_0, trivial⟩
theorem own : ownKnob Tryd.prog.godebug = none := by kernel_rfl
theorem laidOut : laidOutB Tryd.prog = true := by kernel_rfl
theorem int_of_trod {H : Type} {enc : TypeId × Value → H} {Pr : Program} {w : World} {base : Nat} {sp : Nat → Bool} {held : Bool} {fuel : Nat} {t : TypeId} {k : IntKind} {n : Int} {v : Value} {q : List MemPlace} (ht : Pr.underlying t = some (.int k)) (h : DataW.trod enc Pr w base sp held fuel t [v] = some (.lit (.int k n), q)) : v = .int k n := by
 cases fuel with
 | zero => cases h
 | succ m =>
  simp only [DataW.trod, ht] at h
  cases v <;> simp at h
  rename_i k' n'
  obtain ⟨⟨h1, h2⟩, h3⟩ := h
  first | (obtain ⟨h4, _⟩ := h3; subst h1; rw [h4]) | (subst h1; simp_all)
theorem AsksAt_of {W : World} (hS : W.ShapedOpen Tryd.prog) (h : laidMetH Tryd.prog [("prow/fairway.asks", Rows.laid_prow_fairway_asks), ("prow/landing.nowhere", Rows.laid_prow_landing_nowhere), ("prow/landing.unknown", Rows.laid_prow_landing_unknown), ("prow/landing.asks", Rows.laid_prow_landing_asks), ("prow/crossing.nowhere", Rows.laid_prow_crossing_nowhere), ("prow/crossing.sides", Rows.laid_prow_crossing_sides)] W) : AsksAt W := by
 obtain ⟨g, t, cs, fuel, p, hg, ht, hv, hd⟩ := h.funcs (n := "prow/fairway.asks") (d := .agg [.iface "func" (.lit (.string [40, 112, 114, 111, 119, 47, 102, 97, 105, 114, 119, 97, 121, 46, 98, 111, 111, 107, 41, 46, 115, 111, 109, 101])), .iface "func" (.lit (.string [40, 112, 114, 111, 119, 47, 102, 97, 105, 114, 119, 97, 121, 46, 98, 111, 111, 107, 41, 46, 101, 97, 99, 104]))]) (by simp only [List.mem_cons, List.mem_nil_iff]; first | exact .inl rfl | exact .inr (.inl rfl) | exact .inr (.inr (.inl rfl)) | exact .inr (.inr (.inr (.inl rfl))) | exact .inr (.inr (.inr (.inr (.inl rfl)))) | exact .inr (.inr (.inr (.inr (.inr (.inl rfl))))))
 obtain rfl := Option.some.inj ((show Tryd.prog.globalNamed "prow/fairway.asks" = some 5 by kernel_rfl).symm.trans hg)
 obtain rfl := Option.some.inj ((show (Tryd.prog.globals[5]?).map (·.type) = some 169 by kernel_rfl).symm.trans ht)
 obtain ⟨c, hc, hsz, _⟩ := hS.1 5 #[.nilFunc, .nilFunc] 169 (Nat.le_of_ble_eq_true (by kernel_rfl)) (by kernel_rfl)
 have hcs : ∀ i : Nat, W.cell? ⟨5, i, none⟩ = cs[i]? := fun i => World.var?_cell hg hv i
 have hcc : ∀ i : Nat, W.cell? ⟨5, i, none⟩ = c[i]? := fun i => cell_of_row W 5 _ _ _ _ hc
 have hd' : DataW.trod (funcToken Tryd.prog) Tryd.prog W 0 (fun _ => true) true fuel 169 cs.toList = some (.agg [.held [40, 112, 114, 111, 119, 47, 102, 97, 105, 114, 119, 97, 121, 46, 98, 111, 111, 107, 41, 46, 115, 111, 109, 101], .held [40, 112, 114, 111, 119, 47, 102, 97, 105, 114, 119, 97, 121, 46, 98, 111, 111, 107, 41, 46, 101, 97, 99, 104]], p) := hd
 cases fuel with
 | zero => cases hd'
 | succ n =>
  simp only [DataW.trod, Tryd.underlying169] at hd'
  split at hd'
  ·rename_i hl
   obtain ⟨xs, hxs, he⟩ := Option.map_eq_some_iff.1 hd'
   have hl2 : cs.toList.length = 2 := hl.trans (by kernel_rfl)
   have hk : Tryd.prog.cellsOf 168 = 1 := by kernel_rfl
   simp only [Prod.mk.injEq, DataW.agg.injEq] at he
   obtain ⟨y0, hy0, hx0⟩ := mapM_get hxs 0 0 rfl
   obtain ⟨y1, hy1, hx1⟩ := mapM_get hxs 1 1 rfl
   have h0 : y0.1 = .held [40, 112, 114, 111, 119, 47, 102, 97, 105, 114, 119, 97, 121, 46, 98, 111, 111, 107, 41, 46, 115, 111, 109, 101] := by
    have := congrArg (fun l => l[0]?) he.1
    simp only [List.getElem?_map, hx0, Option.map_some] at this
    exact Option.some.inj this
   have h1 : y1.1 = .held [40, 112, 114, 111, 119, 47, 102, 97, 105, 114, 119, 97, 121, 46, 98, 111, 111, 107, 41, 46, 101, 97, 99, 104] := by
    have := congrArg (fun l => l[1]?) he.1
    simp only [List.getElem?_map, hx1, Option.map_some] at this
    exact Option.some.inj this
   rw [hk] at hy0 hy1
   match hcl : cs.toList, hl2 with
   | [u0, u1], _ =>
    rw [hcl] at hy0 hy1
    have hu0 : DataW.trod (funcToken Tryd.prog) Tryd.prog W 0 (fun _ => true) true n 168 [u0] = some (.held [40, 112, 114, 111, 119, 47, 102, 97, 105, 114, 119, 97, 121, 46, 98, 111, 111, 107, 41, 46, 115, 111, 109, 101], y0.2) := by rw [← h0]; exact hy0
    have hu1 : DataW.trod (funcToken Tryd.prog) Tryd.prog W 0 (fun _ => true) true n 168 [u1] = some (.held [40, 112, 114, 111, 119, 47, 102, 97, 105, 114, 119, 97, 121, 46, 98, 111, 111, 107, 41, 46, 101, 97, 99, 104], y1.2) := by rw [← h1]; exact hy1
    obtain rfl := Go.func_of_trod (f0 := 142) Tryd.underlying168 (by kernel_rfl) hu0
    obtain rfl := Go.func_of_trod (f0 := 143) Tryd.underlying168 (by kernel_rfl) hu1
    unfold AsksAt
    rw [hc]
    have e0 := hcc 0
    have e1 := hcc 1
    rw [hcs 0, ← Array.getElem?_toList, hcl] at e0
    rw [hcs 1, ← Array.getElem?_toList, hcl] at e1
    have : c = #[.func (.func 142) #[] #[], .func (.func 143) #[] #[]] := by
     have hs2 : c.size = 2 := hsz
     apply Array.ext
     ·rw [hs2]; rfl
     intro i h1 h2
     rw [hs2] at h1
     have : i = 0 ∨ i = 1 := by omega
     rcases this with rfl | rfl
     ·have := e0.symm; rw [Array.getElem?_eq_getElem (by omega)] at this; exact Option.some.inj this
     have := e1.symm; rw [Array.getElem?_eq_getElem (by omega)] at this; exact Option.some.inj this
    rw [this]
  cases hd'
theorem NowhereAt_of {W : World} (hS : W.ShapedOpen Tryd.prog) {g : Nat} {t : TypeId} {cs : Array Value} {fuel : Nat} {p : List MemPlace} (hg : Tryd.prog.globalNamed "prow/landing.nowhere" = some g) (ht : (Tryd.prog.globals[g]?).map (·.type) = some t) (hv : W.var? Tryd.prog "prow/landing.nowhere" = some cs)
  (hd : DataW.trod (fun _ => ()) Tryd.prog W 0 (fun _ => true) false fuel t cs.toList = some (.agg [.lit (.int .i64 (-1)), .lit (.int .i64 (-1))], p)) : NowhereAt W := by
 obtain rfl := Option.some.inj ((show Tryd.prog.globalNamed "prow/landing.nowhere" = some 3 by kernel_rfl).symm.trans hg)
 obtain rfl := Option.some.inj ((show (Tryd.prog.globals[3]?).map (·.type) = some 136 by kernel_rfl).symm.trans ht)
 obtain ⟨c, hc, hsz, _⟩ := hS.1 3 #[.int .i64 0, .int .i64 0] 136 (Nat.le_of_ble_eq_true (by kernel_rfl)) (by kernel_rfl)
 have hcs : ∀ i : Nat, W.cell? ⟨3, i, none⟩ = cs[i]? := fun i => World.var?_cell hg hv i
 have hcc : ∀ i : Nat, W.cell? ⟨3, i, none⟩ = c[i]? := fun i => cell_of_row W 3 _ _ _ _ hc
 have hd' : DataW.trod (fun _ => ()) Tryd.prog W 0 (fun _ => true) false fuel 136 cs.toList = some (.agg [.lit (.int .i64 (-1)), .lit (.int .i64 (-1))], p) := hd
 cases fuel with
 | zero => cases hd'
 | succ n =>
  simp only [DataW.trod, Tryd.underlying136] at hd'
  split at hd'
  ·rename_i hl
   obtain ⟨xs, hxs, he⟩ := Option.map_eq_some_iff.1 hd'
   have hl2 : cs.toList.length = 2 := hl.trans (by kernel_rfl)
   have hk : Tryd.prog.cellsOf 3 = 1 := by kernel_rfl
   simp only [Prod.mk.injEq, DataW.agg.injEq] at he
   obtain ⟨y0, hy0, hx0⟩ := mapM_get hxs 0 _ rfl
   obtain ⟨y1, hy1, hx1⟩ := mapM_get hxs 1 _ rfl
   have h0 : y0.1 = .lit (.int .i64 (-1)) := by
    have := congrArg (fun l => l[0]?) he.1
    simp only [List.getElem?_map, hx0, Option.map_some] at this
    exact Option.some.inj this
   have h1 : y1.1 = .lit (.int .i64 (-1)) := by
    have := congrArg (fun l => l[1]?) he.1
    simp only [List.getElem?_map, hx1, Option.map_some] at this
    exact Option.some.inj this
   simp only [hk] at hy0 hy1
   match hcl : cs.toList, hl2 with
   | [u0, u1], _ =>
    rw [hcl] at hy0 hy1
    have hu0 : DataW.trod (fun _ => ()) Tryd.prog W 0 (fun _ => true) false n 3 [u0] = some (.lit (.int .i64 (-1)), y0.2) := by rw [← h0]; exact hy0
    have hu1 : DataW.trod (fun _ => ()) Tryd.prog W 0 (fun _ => true) false n 3 [u1] = some (.lit (.int .i64 (-1)), y1.2) := by rw [← h1]; exact hy1
    obtain rfl := int_of_trod Tryd.underlying3 hu0
    obtain rfl := int_of_trod Tryd.underlying3 hu1
    unfold NowhereAt
    rw [hc]
    have e0 := hcc 0
    have e1 := hcc 1
    rw [hcs 0, ← Array.getElem?_toList, hcl] at e0
    rw [hcs 1, ← Array.getElem?_toList, hcl] at e1
    have : c = #[iv (-1), iv (-1)] := by
     have hs2 : c.size = 2 := hsz
     apply Array.ext
     ·rw [hs2]; rfl
     intro i h1 h2
     rw [hs2] at h1
     have : i = 0 ∨ i = 1 := by omega
     rcases this with rfl | rfl
     ·have := e0.symm; rw [Array.getElem?_eq_getElem (by omega)] at this; exact Option.some.inj this
     have := e1.symm; rw [Array.getElem?_eq_getElem (by omega)] at this; exact Option.some.inj this
    rw [this]
  cases hd'
theorem UnknownAt_of {W : World} (hS : W.ShapedOpen Tryd.prog) {g : Nat} {t : TypeId} {cs : Array Value} {fuel : Nat} {p : List MemPlace} (hg : Tryd.prog.globalNamed "prow/landing.unknown" = some g) (ht : (Tryd.prog.globals[g]?).map (·.type) = some t) (hv : W.var? Tryd.prog "prow/landing.unknown" = some cs)
  (hd : DataW.trod (fun _ => ()) Tryd.prog W 0 (fun _ => true) false fuel t cs.toList = some (.agg [.lit (.int .i64 (-41)), .lit (.int .i64 (-41))], p)) : UnknownAt W := by
 obtain rfl := Option.some.inj ((show Tryd.prog.globalNamed "prow/landing.unknown" = some 4 by kernel_rfl).symm.trans hg)
 obtain rfl := Option.some.inj ((show (Tryd.prog.globals[4]?).map (·.type) = some 148 by kernel_rfl).symm.trans ht)
 obtain ⟨c, hc, hsz, _⟩ := hS.1 4 #[.int .i64 0, .int .i64 0] 148 (Nat.le_of_ble_eq_true (by kernel_rfl)) (by kernel_rfl)
 have hcs : ∀ i : Nat, W.cell? ⟨4, i, none⟩ = cs[i]? := fun i => World.var?_cell hg hv i
 have hcc : ∀ i : Nat, W.cell? ⟨4, i, none⟩ = c[i]? := fun i => cell_of_row W 4 _ _ _ _ hc
 have hd' : DataW.trod (fun _ => ()) Tryd.prog W 0 (fun _ => true) false fuel 148 cs.toList = some (.agg [.lit (.int .i64 (-41)), .lit (.int .i64 (-41))], p) := hd
 cases fuel with
 | zero => cases hd'
 | succ n =>
  simp only [DataW.trod, Tryd.underlying148] at hd'
  split at hd'
  ·rename_i hl
   obtain ⟨xs, hxs, he⟩ := Option.map_eq_some_iff.1 hd'
   have hl2 : cs.toList.length = 2 := hl.trans (by kernel_rfl)
   have hk : Tryd.prog.cellsOf 3 = 1 := by kernel_rfl
   simp only [Prod.mk.injEq, DataW.agg.injEq] at he
   obtain ⟨y0, hy0, hx0⟩ := mapM_get hxs 0 _ rfl
   obtain ⟨y1, hy1, hx1⟩ := mapM_get hxs 1 _ rfl
   have h0 : y0.1 = .lit (.int .i64 (-41)) := by
    have := congrArg (fun l => l[0]?) he.1
    simp only [List.getElem?_map, hx0, Option.map_some] at this
    exact Option.some.inj this
   have h1 : y1.1 = .lit (.int .i64 (-41)) := by
    have := congrArg (fun l => l[1]?) he.1
    simp only [List.getElem?_map, hx1, Option.map_some] at this
    exact Option.some.inj this
   simp only [hk] at hy0 hy1
   match hcl : cs.toList, hl2 with
   | [u0, u1], _ =>
    rw [hcl] at hy0 hy1
    have hu0 : DataW.trod (fun _ => ()) Tryd.prog W 0 (fun _ => true) false n 3 [u0] = some (.lit (.int .i64 (-41)), y0.2) := by rw [← h0]; exact hy0
    have hu1 : DataW.trod (fun _ => ()) Tryd.prog W 0 (fun _ => true) false n 3 [u1] = some (.lit (.int .i64 (-41)), y1.2) := by rw [← h1]; exact hy1
    obtain rfl := int_of_trod Tryd.underlying3 hu0
    obtain rfl := int_of_trod Tryd.underlying3 hu1
    unfold UnknownAt
    rw [hc]
    have e0 := hcc 0
    have e1 := hcc 1
    rw [hcs 0, ← Array.getElem?_toList, hcl] at e0
    rw [hcs 1, ← Array.getElem?_toList, hcl] at e1
    have : c = #[iv (-41), iv (-41)] := by
     have hs2 : c.size = 2 := hsz
     apply Array.ext
     ·rw [hs2]; rfl
     intro i h1 h2
     rw [hs2] at h1
     have : i = 0 ∨ i = 1 := by omega
     rcases this with rfl | rfl
     ·have := e0.symm; rw [Array.getElem?_eq_getElem (by omega)] at this; exact Option.some.inj this
     have := e1.symm; rw [Array.getElem?_eq_getElem (by omega)] at this; exact Option.some.inj this
    rw [this]
  cases hd'
theorem LAsksAt_of {W : World} (hS : W.ShapedOpen Tryd.prog) (h : laidMetH Tryd.prog [("prow/fairway.asks", Rows.laid_prow_fairway_asks), ("prow/landing.nowhere", Rows.laid_prow_landing_nowhere), ("prow/landing.unknown", Rows.laid_prow_landing_unknown), ("prow/landing.asks", Rows.laid_prow_landing_asks), ("prow/crossing.nowhere", Rows.laid_prow_crossing_nowhere), ("prow/crossing.sides", Rows.laid_prow_crossing_sides)] W) : LAsksAt W := by
 obtain ⟨g, t, cs, fuel, p, hg, ht, hv, hd⟩ := h.funcs (n := "prow/landing.asks") (d := .agg [.iface "func" (.lit (.string [40, 112, 114, 111, 119, 47, 108, 97, 110, 100, 105, 110, 103, 46, 98, 111, 111, 107, 41, 46, 109, 97, 121])), .iface "func" (.lit (.string [40, 112, 114, 111, 119, 47, 108, 97, 110, 100, 105, 110, 103, 46, 98, 111, 111, 107, 41, 46, 109, 117, 115, 116]))]) (by simp only [List.mem_cons, List.mem_nil_iff]; first | exact .inl rfl | exact .inr (.inl rfl) | exact .inr (.inr (.inl rfl)) | exact .inr (.inr (.inr (.inl rfl))) | exact .inr (.inr (.inr (.inr (.inl rfl)))) | exact .inr (.inr (.inr (.inr (.inr (.inl rfl))))))
 obtain rfl := Option.some.inj ((show Tryd.prog.globalNamed "prow/landing.asks" = some 1 by kernel_rfl).symm.trans hg)
 obtain rfl := Option.some.inj ((show (Tryd.prog.globals[1]?).map (·.type) = some 134 by kernel_rfl).symm.trans ht)
 obtain ⟨c, hc, hsz, _⟩ := hS.1 1 #[.nilFunc, .nilFunc] 134 (Nat.le_of_ble_eq_true (by kernel_rfl)) (by kernel_rfl)
 have hcs : ∀ i : Nat, W.cell? ⟨1, i, none⟩ = cs[i]? := fun i => World.var?_cell hg hv i
 have hcc : ∀ i : Nat, W.cell? ⟨1, i, none⟩ = c[i]? := fun i => cell_of_row W 1 _ _ _ _ hc
 have hd' : DataW.trod (funcToken Tryd.prog) Tryd.prog W 0 (fun _ => true) true fuel 134 cs.toList = some (.agg [.held [40, 112, 114, 111, 119, 47, 108, 97, 110, 100, 105, 110, 103, 46, 98, 111, 111, 107, 41, 46, 109, 97, 121], .held [40, 112, 114, 111, 119, 47, 108, 97, 110, 100, 105, 110, 103, 46, 98, 111, 111, 107, 41, 46, 109, 117, 115, 116]], p) := hd
 cases fuel with
 | zero => cases hd'
 | succ n =>
  simp only [DataW.trod, Tryd.underlying134] at hd'
  split at hd'
  ·rename_i hl
   obtain ⟨xs, hxs, he⟩ := Option.map_eq_some_iff.1 hd'
   have hl2 : cs.toList.length = 2 := hl.trans (by kernel_rfl)
   have hk : Tryd.prog.cellsOf 133 = 1 := by kernel_rfl
   simp only [Prod.mk.injEq, DataW.agg.injEq] at he
   obtain ⟨y0, hy0, hx0⟩ := mapM_get hxs 0 0 rfl
   obtain ⟨y1, hy1, hx1⟩ := mapM_get hxs 1 1 rfl
   have h0 : y0.1 = .held [40, 112, 114, 111, 119, 47, 108, 97, 110, 100, 105, 110, 103, 46, 98, 111, 111, 107, 41, 46, 109, 97, 121] := by
    have := congrArg (fun l => l[0]?) he.1
    simp only [List.getElem?_map, hx0, Option.map_some] at this
    exact Option.some.inj this
   have h1 : y1.1 = .held [40, 112, 114, 111, 119, 47, 108, 97, 110, 100, 105, 110, 103, 46, 98, 111, 111, 107, 41, 46, 109, 117, 115, 116] := by
    have := congrArg (fun l => l[1]?) he.1
    simp only [List.getElem?_map, hx1, Option.map_some] at this
    exact Option.some.inj this
   rw [hk] at hy0 hy1
   match hcl : cs.toList, hl2 with
   | [u0, u1], _ =>
    rw [hcl] at hy0 hy1
    have hu0 : DataW.trod (funcToken Tryd.prog) Tryd.prog W 0 (fun _ => true) true n 133 [u0] = some (.held [40, 112, 114, 111, 119, 47, 108, 97, 110, 100, 105, 110, 103, 46, 98, 111, 111, 107, 41, 46, 109, 97, 121], y0.2) := by rw [← h0]; exact hy0
    have hu1 : DataW.trod (funcToken Tryd.prog) Tryd.prog W 0 (fun _ => true) true n 133 [u1] = some (.held [40, 112, 114, 111, 119, 47, 108, 97, 110, 100, 105, 110, 103, 46, 98, 111, 111, 107, 41, 46, 109, 117, 115, 116], y1.2) := by rw [← h1]; exact hy1
    obtain rfl := Go.func_of_trod (f0 := 132) Tryd.underlying133 (by kernel_rfl) hu0
    obtain rfl := Go.func_of_trod (f0 := 136) Tryd.underlying133 (by kernel_rfl) hu1
    unfold LAsksAt
    rw [hc]
    have e0 := hcc 0
    have e1 := hcc 1
    rw [hcs 0, ← Array.getElem?_toList, hcl] at e0
    rw [hcs 1, ← Array.getElem?_toList, hcl] at e1
    have : c = #[.func (.func 132) #[] #[], .func (.func 136) #[] #[]] := by
     have hs2 : c.size = 2 := hsz
     apply Array.ext
     ·rw [hs2]; rfl
     intro i h1 h2
     rw [hs2] at h1
     have : i = 0 ∨ i = 1 := by omega
     rcases this with rfl | rfl
     ·have := e0.symm; rw [Array.getElem?_eq_getElem (by omega)] at this; exact Option.some.inj this
     have := e1.symm; rw [Array.getElem?_eq_getElem (by omega)] at this; exact Option.some.inj this
    rw [this]
  cases hd'
theorem XNowhereAt_of {W : World} (hS : W.ShapedOpen Tryd.prog) {g : Nat} {t : TypeId} {cs : Array Value} {fuel : Nat} {p : List MemPlace} (hg : Tryd.prog.globalNamed "prow/crossing.nowhere" = some g) (ht : (Tryd.prog.globals[g]?).map (·.type) = some t) (hv : W.var? Tryd.prog "prow/crossing.nowhere" = some cs)
  (hd : DataW.trod (fun _ => ()) Tryd.prog W 0 (fun _ => true) false fuel t cs.toList = some (.agg [.lit (.int .i64 (-1)), .lit (.int .i64 0)], p)) : XNowhereAt W := by
 obtain rfl := Option.some.inj ((show Tryd.prog.globalNamed "prow/crossing.nowhere" = some 2 by kernel_rfl).symm.trans hg)
 obtain rfl := Option.some.inj ((show (Tryd.prog.globals[2]?).map (·.type) = some 86 by kernel_rfl).symm.trans ht)
 obtain ⟨c, hc, hsz, _⟩ := hS.1 2 #[.int .i64 0, .int .i64 0] 86 (Nat.le_of_ble_eq_true (by kernel_rfl)) (by kernel_rfl)
 have hcs : ∀ i : Nat, W.cell? ⟨2, i, none⟩ = cs[i]? := fun i => World.var?_cell hg hv i
 have hcc : ∀ i : Nat, W.cell? ⟨2, i, none⟩ = c[i]? := fun i => cell_of_row W 2 _ _ _ _ hc
 have hd' : DataW.trod (fun _ => ()) Tryd.prog W 0 (fun _ => true) false fuel 86 cs.toList = some (.agg [.lit (.int .i64 (-1)), .lit (.int .i64 0)], p) := hd
 cases fuel with
 | zero => cases hd'
 | succ n =>
  simp only [DataW.trod, Tryd.underlying86] at hd'
  split at hd'
  ·rename_i hl
   obtain ⟨xs, hxs, he⟩ := Option.map_eq_some_iff.1 hd'
   have hl2 : cs.toList.length = 2 := hl.trans (by kernel_rfl)
   have hk : Tryd.prog.cellsOf 3 = 1 := by kernel_rfl
   simp only [Prod.mk.injEq, DataW.agg.injEq] at he
   obtain ⟨y0, hy0, hx0⟩ := mapM_get hxs 0 _ rfl
   obtain ⟨y1, hy1, hx1⟩ := mapM_get hxs 1 _ rfl
   have h0 : y0.1 = .lit (.int .i64 (-1)) := by
    have := congrArg (fun l => l[0]?) he.1
    simp only [List.getElem?_map, hx0, Option.map_some] at this
    exact Option.some.inj this
   have h1 : y1.1 = .lit (.int .i64 0) := by
    have := congrArg (fun l => l[1]?) he.1
    simp only [List.getElem?_map, hx1, Option.map_some] at this
    exact Option.some.inj this
   simp only [hk] at hy0 hy1
   match hcl : cs.toList, hl2 with
   | [u0, u1], _ =>
    rw [hcl] at hy0 hy1
    have hu0 : DataW.trod (fun _ => ()) Tryd.prog W 0 (fun _ => true) false n 3 [u0] = some (.lit (.int .i64 (-1)), y0.2) := by rw [← h0]; exact hy0
    have hu1 : DataW.trod (fun _ => ()) Tryd.prog W 0 (fun _ => true) false n 3 [u1] = some (.lit (.int .i64 0), y1.2) := by rw [← h1]; exact hy1
    obtain rfl := int_of_trod Tryd.underlying3 hu0
    obtain rfl := int_of_trod Tryd.underlying3 hu1
    unfold XNowhereAt
    rw [hc]
    have e0 := hcc 0
    have e1 := hcc 1
    rw [hcs 0, ← Array.getElem?_toList, hcl] at e0
    rw [hcs 1, ← Array.getElem?_toList, hcl] at e1
    have : c = #[iv (-1), iv 0] := by
     have hs2 : c.size = 2 := hsz
     apply Array.ext
     ·rw [hs2]; rfl
     intro i h1 h2
     rw [hs2] at h1
     have : i = 0 ∨ i = 1 := by omega
     rcases this with rfl | rfl
     ·have := e0.symm; rw [Array.getElem?_eq_getElem (by omega)] at this; exact Option.some.inj this
     have := e1.symm; rw [Array.getElem?_eq_getElem (by omega)] at this; exact Option.some.inj this
    rw [this]
  cases hd'
theorem SidesAt_of {W : World} (hS : W.ShapedOpen Tryd.prog) (h : laidMetH Tryd.prog [("prow/fairway.asks", Rows.laid_prow_fairway_asks), ("prow/landing.nowhere", Rows.laid_prow_landing_nowhere), ("prow/landing.unknown", Rows.laid_prow_landing_unknown), ("prow/landing.asks", Rows.laid_prow_landing_asks), ("prow/crossing.nowhere", Rows.laid_prow_crossing_nowhere), ("prow/crossing.sides", Rows.laid_prow_crossing_sides)] W) : SidesAt W := by
 obtain ⟨g, t, cs, fuel, p, hg, ht, hv, hd⟩ := h.funcs (n := "prow/crossing.sides") (d := .agg [.iface "func" (.lit (.string [40, 112, 114, 111, 119, 47, 99, 114, 111, 115, 115, 105, 110, 103, 46, 98, 111, 111, 107, 41, 46, 108, 101, 97, 118, 101, 115])), .iface "func" (.lit (.string [40, 112, 114, 111, 119, 47, 99, 114, 111, 115, 115, 105, 110, 103, 46, 98, 111, 111, 107, 41, 46, 97, 114, 114, 105, 118, 101, 115]))]) (by simp only [List.mem_cons, List.mem_nil_iff]; first | exact .inl rfl | exact .inr (.inl rfl) | exact .inr (.inr (.inl rfl)) | exact .inr (.inr (.inr (.inl rfl))) | exact .inr (.inr (.inr (.inr (.inl rfl)))) | exact .inr (.inr (.inr (.inr (.inr (.inl rfl))))))
 obtain rfl := Option.some.inj ((show Tryd.prog.globalNamed "prow/crossing.sides" = some 0 by kernel_rfl).symm.trans hg)
 obtain rfl := Option.some.inj ((show (Tryd.prog.globals[0]?).map (·.type) = some 123 by kernel_rfl).symm.trans ht)
 obtain ⟨c, hc, hsz, _⟩ := hS.1 0 #[.nilFunc, .nilFunc] 123 (Nat.le_of_ble_eq_true (by kernel_rfl)) (by kernel_rfl)
 have hcs : ∀ i : Nat, W.cell? ⟨0, i, none⟩ = cs[i]? := fun i => World.var?_cell hg hv i
 have hcc : ∀ i : Nat, W.cell? ⟨0, i, none⟩ = c[i]? := fun i => cell_of_row W 0 _ _ _ _ hc
 have hd' : DataW.trod (funcToken Tryd.prog) Tryd.prog W 0 (fun _ => true) true fuel 123 cs.toList = some (.agg [.held [40, 112, 114, 111, 119, 47, 99, 114, 111, 115, 115, 105, 110, 103, 46, 98, 111, 111, 107, 41, 46, 108, 101, 97, 118, 101, 115], .held [40, 112, 114, 111, 119, 47, 99, 114, 111, 115, 115, 105, 110, 103, 46, 98, 111, 111, 107, 41, 46, 97, 114, 114, 105, 118, 101, 115]], p) := hd
 cases fuel with
 | zero => cases hd'
 | succ n =>
  simp only [DataW.trod, Tryd.underlying123] at hd'
  split at hd'
  ·rename_i hl
   obtain ⟨xs, hxs, he⟩ := Option.map_eq_some_iff.1 hd'
   have hl2 : cs.toList.length = 2 := hl.trans (by kernel_rfl)
   have hk : Tryd.prog.cellsOf 122 = 1 := by kernel_rfl
   simp only [Prod.mk.injEq, DataW.agg.injEq] at he
   obtain ⟨y0, hy0, hx0⟩ := mapM_get hxs 0 0 rfl
   obtain ⟨y1, hy1, hx1⟩ := mapM_get hxs 1 1 rfl
   have h0 : y0.1 = .held [40, 112, 114, 111, 119, 47, 99, 114, 111, 115, 115, 105, 110, 103, 46, 98, 111, 111, 107, 41, 46, 108, 101, 97, 118, 101, 115] := by
    have := congrArg (fun l => l[0]?) he.1
    simp only [List.getElem?_map, hx0, Option.map_some] at this
    exact Option.some.inj this
   have h1 : y1.1 = .held [40, 112, 114, 111, 119, 47, 99, 114, 111, 115, 115, 105, 110, 103, 46, 98, 111, 111, 107, 41, 46, 97, 114, 114, 105, 118, 101, 115] := by
    have := congrArg (fun l => l[1]?) he.1
    simp only [List.getElem?_map, hx1, Option.map_some] at this
    exact Option.some.inj this
   rw [hk] at hy0 hy1
   match hcl : cs.toList, hl2 with
   | [u0, u1], _ =>
    rw [hcl] at hy0 hy1
    have hu0 : DataW.trod (funcToken Tryd.prog) Tryd.prog W 0 (fun _ => true) true n 122 [u0] = some (.held [40, 112, 114, 111, 119, 47, 99, 114, 111, 115, 115, 105, 110, 103, 46, 98, 111, 111, 107, 41, 46, 108, 101, 97, 118, 101, 115], y0.2) := by rw [← h0]; exact hy0
    have hu1 : DataW.trod (funcToken Tryd.prog) Tryd.prog W 0 (fun _ => true) true n 122 [u1] = some (.held [40, 112, 114, 111, 119, 47, 99, 114, 111, 115, 115, 105, 110, 103, 46, 98, 111, 111, 107, 41, 46, 97, 114, 114, 105, 118, 101, 115], y1.2) := by rw [← h1]; exact hy1
    obtain rfl := Go.func_of_trod (f0 := 135) Tryd.underlying122 (by kernel_rfl) hu0
    obtain rfl := Go.func_of_trod (f0 := 88) Tryd.underlying122 (by kernel_rfl) hu1
    unfold SidesAt
    rw [hc]
    have e0 := hcc 0
    have e1 := hcc 1
    rw [hcs 0, ← Array.getElem?_toList, hcl] at e0
    rw [hcs 1, ← Array.getElem?_toList, hcl] at e1
    have : c = #[.func (.func 135) #[] #[], .func (.func 88) #[] #[]] := by
     have hs2 : c.size = 2 := hsz
     apply Array.ext
     ·rw [hs2]; rfl
     intro i h1 h2
     rw [hs2] at h1
     have : i = 0 ∨ i = 1 := by omega
     rcases this with rfl | rfl
     ·have := e0.symm; rw [Array.getElem?_eq_getElem (by omega)] at this; exact Option.some.inj this
     have := e1.symm; rw [Array.getElem?_eq_getElem (by omega)] at this; exact Option.some.inj this
    rw [this]
  cases hd'
theorem cx_of {W : World} (hS : W.ShapedOpen Tryd.prog) (h : laidMetH Tryd.prog [("prow/fairway.asks", Rows.laid_prow_fairway_asks), ("prow/landing.nowhere", Rows.laid_prow_landing_nowhere), ("prow/landing.unknown", Rows.laid_prow_landing_unknown), ("prow/landing.asks", Rows.laid_prow_landing_asks), ("prow/crossing.nowhere", Rows.laid_prow_crossing_nowhere), ("prow/crossing.sides", Rows.laid_prow_crossing_sides)] W) : AsksAt W ∧ UnknownAt W ∧ NowhereAt W ∧ LAsksAt W ∧ SidesAt W ∧ XNowhereAt W := by
 have h1 : laidMet Tryd.prog [("prow/landing.nowhere", Rows.laid_prow_landing_nowhere), ("prow/landing.unknown", Rows.laid_prow_landing_unknown), ("prow/crossing.nowhere", Rows.laid_prow_crossing_nowhere)] W := by
  have h2 : laidMet Tryd.prog [("prow/landing.nowhere", Rows.laid_prow_landing_nowhere), ("prow/landing.unknown", Rows.laid_prow_landing_unknown), ("prow/crossing.nowhere", Rows.laid_prow_crossing_nowhere)] W ∧ handlesMet Tryd.prog [("prow/fairway.asks", Rows.laid_prow_fairway_asks), ("prow/landing.asks", Rows.laid_prow_landing_asks), ("prow/crossing.sides", Rows.laid_prow_crossing_sides)] W := h
  exact h2.1
 obtain ⟨ps, ⟨g0, t0, cs0, f0, p0, q0, hg0, ht0, hv0, hd0, ⟨g1, t1, cs1, f1, p1, q1, hg1, ht1, hv1, hd1, ⟨g2, t2, cs2, f2, p2, q2, hg2, ht2, hv2, hd2, _, _⟩, _⟩, _⟩, _⟩ := h1
 exact ⟨AsksAt_of hS h, UnknownAt_of hS hg1 ht1 hv1 hd1, NowhereAt_of hS hg0 ht0 hv0 hd0, LAsksAt_of hS h, SidesAt_of hS h, XNowhereAt_of hS hg2 ht2 hv2 hd2⟩
end Go.Proofs.YtpfglknbkpcfnaaDoor.X
namespace Go.Proofs.YtpfglknbkpcfnaaDoor.Lw
open Go Go.RowKit Go.Proofs.YtpfglknbkpcfnaaDoor.Eng Go.Proofs.YtpfglknbkpcfnaaDoor.Fw
theorem in_min {m : Int} {h : Int} (h0 : 0 ≤ m) (h1 : m ≤ h) : withinF m 0 h = true := by
 unfold withinF
 rw [decide_eq_true h0, decide_eq_true h1]; rfl
theorem err_T {b : Book} (hv : Valid b) (ht : isTrueF b [] = true) : errF b true = 0 := err_ok.2 ⟨hv, rfl, ht⟩
section
variable {b : Book} (hv : Valid b)
include hv
theorem clearA_T (ht : isTrueF b [] = true) {m : Int} (h0 : 0 ≤ m) (h1 : m ≤ 60) : clearA b m = (clearF b [] m, 0) := by
 rw [clearA_eq, in_min h0 h1, err_T hv ht, if_pos rfl]
theorem freeA_T (ht : isTrueF b [] = true) : freeA b = (foundF b [] 0, 0) := by rw [freeA_eq, err_T hv ht, if_pos rfl]
end
theorem clear_in {b : Book} (hv : Valid b) (ht : isTrueF b [] = true) (m : Int) : 0 ≤ clearF b [] m ∧ clearF b [] m ≤ 2 := by
 rw [clearF_eq hv ht]
 split
 ·omega
 split <;> omega
end Go.Proofs.YtpfglknbkpcfnaaDoor.Lw
namespace Go.Proofs.YtpfglknbkpcfnaaDoor.X
open Go Go.RowKit Go.Proofs.YtpfglknbkpcfnaaDoor.Eng Go.Proofs.YtpfglknbkpcfnaaDoor.Fw
theorem lands_range (x : LBook) (shore hour load : Int) : 0 ≤ (landsL x shore hour load).1 ∧ (landsL x shore hour load).1 ≤ 2 := by
 unfold landsL
 cases (checkL x == 0) && (((isShoreL shore) && (isHourL x hour)) && (isLoadL load))
 ·cases askNL x != 0 <;> (simp only [cond_true, cond_false]; decide)
 cases askTL x != 0
 ·cases mustD (⟨x, (canF x)⟩ : LOpen) (⟨hour, shore⟩ : (Int × Int)) load <;> cases mayD (⟨x, (canF x)⟩ : LOpen) (⟨hour, shore⟩ : (Int × Int)) load <;> (simp only [cond_true, cond_false]; decide)
 simp only [cond_true, cond_false]; decide
theorem landsX_range (b : XBook) (p : Int × Int) (load : Int) : 0 ≤ landsX b p load ∧ landsX b p load ≤ 2 := lands_range _ _ _ _
theorem least3 (a x y : Int) : leastX a [x, y] = min (min a x) y := by
 show mn (mn a x) y = _
 rw [mn_spec, mn_spec]
theorem clX_iff (f : Book) (s m : Int) (hs : 0 ≤ s ∧ s ≤ 1) : atP (fkL f) fkK fkIs s m = decide (m ∈ (freeA f).1) := by
 unfold atP
 rw [Bool.eq_iff_iff, decide_eq_true_eq]
 cases hf : (fkL f).find? fun x => fkK x == (s, m) with
 | none =>
  simp only [Option.map_none, Option.getD_none, Bool.false_eq_true, false_iff]
  intro h
  have h2 : (⟨s, m, true⟩ : Fr) ∈ fkL f := by
   unfold fkL
   refine List.mem_cons_of_mem _ (List.mem_flatMap.2 ⟨m, h, ?_⟩)
   rcases (show s = 0 ∨ s = 1 by omega) with rfl | rfl
   ·exact List.mem_cons_self
   exact List.mem_cons_of_mem _ List.mem_cons_self
  have := List.find?_eq_none.1 hf _ h2
  exact this (beq_self_eq_true _)
 | some x =>
  have hm := List.mem_of_find?_eq_some hf
  have hk := List.find?_some hf
  rw [beq_iff_eq] at hk
  have h1 : x.sh = s := congrArg Prod.fst hk
  have h2 : x.mi = m := congrArg Prod.snd hk
  simp only [Option.map_some, Option.getD_some]
  unfold fkL at hm
  rcases List.mem_cons.1 hm with rfl | hm
  ·simp only at h1; omega
  obtain ⟨q, hq, hx⟩ := List.mem_flatMap.1 hm
  have hx' : x = ⟨0, q, true⟩ ∨ x = ⟨1, q, true⟩ := by simpa using hx
  rcases hx' with rfl | rfl <;> (simp only at h2; subst h2; exact ⟨fun _ => hq, fun _ => rfl⟩)
theorem sureX_iff {b : XBook} {p : Int × Int} {load : Int} (hs : 0 ≤ p.1 ∧ p.1 ≤ 1) : sureX b p load = true ↔ p.2 ∈ (freeA b.fw).1 ∧ landsX b p load = 2 ∧ landsX b (arrivesX b p) load = 2 := by
 unfold sureX
 rw [clX_iff _ _ _ hs, least3]
 have h1 := landsX_range b p load
 have h2 := landsX_range b (arrivesX b p) load
 rw [show (p.1 == -1) = false from by simp; omega, Bool.false_and, Bool.false_or]
 simp only [shoresX, leavesX]
 generalize landsX b p load = x at *
 generalize landsX b (arrivesX b p) load = y at *
 by_cases hm : p.2 ∈ (freeA b.fw).1
 ·simp only [hm, decide_true, Bool.not_true, cond_false, true_and, Bool.and_eq_true, Bool.not_eq_true', beq_iff_eq, beq_eq_false_iff_ne, ne_eq, List.cons.injEq, and_true]
  constructor
  ·rintro ⟨_, h⟩; omega
  rintro ⟨rfl, rfl⟩
  exact ⟨fun h => by have h9 : (2 : Int) = 0 := h.1; omega, by omega⟩
 simp only [hm, decide_false, Bool.not_false, cond_true, Bool.false_eq_true, false_and]
theorem asc_fst {l : List Int} (h : l.Pairwise (· < ·)) {x : Int} {r : List Int} (he : l = x :: r) : ∀ y ∈ l, x ≤ y := by
 subst he
 intro y hy
 rcases List.mem_cons.1 hy with rfl | hy
 ·exact Int.le_refl _
 have := (List.pairwise_cons.1 h).1 y hy; omega
theorem depU_mem {b : XBook} {p : Int × Int} {load x : Int} (h0 : 0 ≤ p.2) : x ∈ depX b p load true ↔ (p.2 ≤ x ∧ x ≤ 60) ∧ sureX b (p.1, x) load = true := by
 unfold depX preX
 rw [List.mem_filter, List.mem_map]
 refine and_congr ?_ Iff.rfl
 simp only [List.mem_range, nX, stepO, if_true]
 constructor
 ·rintro ⟨q, hq, rfl⟩
  split at hq <;> omega
 rintro ⟨h1, h2⟩
 refine ⟨(x - p.2).toNat, ?_, by omega⟩
 rw [if_pos (by omega)]; omega
theorem depU_asc (b : XBook) (p : Int × Int) (load : Int) : (depX b p load true).Pairwise (· < ·) := by
 unfold depX preX
 refine List.Pairwise.filter _ ?_
 rw [List.pairwise_map]
 exact List.pairwise_lt_range.imp fun h => by simp only [stepO, if_true]; omega
structure IsFirst (S : Int → Bool) (m : Int) (r : Int × Bool) : Prop where
 yes : r.2 = true → (m ≤ r.1 ∧ r.1 ≤ 60) ∧ S r.1 = true ∧ ∀ y, m ≤ y → y < r.1 → S y = false
 no : r.2 = false → r.1 = 0 ∧ ∀ y, m ≤ y → y ≤ 60 → S y = false
theorem firstU_is {b : XBook} {p : Int × Int} {load : Int} (h0 : 0 ≤ p.2) : IsFirst (fun m => sureX b (p.1, m) load) p.2 (firstU b p load) := by
 unfold firstU
 cases hl : depX b p load true with
 | nil =>
  refine ⟨fun h => (by cases h), fun _ => ⟨rfl, fun y h1 h2 => ?_⟩⟩
  cases hs : sureX b (p.1, y) load with
  | false => rfl
  | true => have := (depU_mem h0).2 ⟨⟨h1, h2⟩, hs⟩; rw [hl] at this; cases this
 | cons x r =>
  refine ⟨fun _ => ?_, fun h => (by cases h)⟩
  have hx := (depU_mem (x := x) h0).1 (by rw [hl]; exact List.mem_cons_self)
  refine ⟨hx.1, hx.2, fun y h1 h2 => ?_⟩
  cases hs : sureX b (p.1, y) load with
  | false => rfl
  | true =>
   have h3 := (depU_mem h0).2 ⟨⟨h1, by have := hx.1.2; simp only [firstQ] at h2; omega⟩, hs⟩
   have := asc_fst (depU_asc b p load) hl y h3
   simp only [firstQ] at h2; omega
section
variable {b : XBook} (hb : ValidX b)
include hb
theorem err_valid (isv : Bool) : errX b isv = if isv then (if rightX b then 0 else 92) else 91 := by
 unfold errX; rw [if_pos (checkX_valid.2 hb)]
theorem true2_eq : true2L b = rightX b := by
 unfold true2L rightX
 rw [show (rightL b.lan).2 = 0 from by unfold rightL; rw [show (checkL b.lan != 0) = false from by rw [checkL_valid.2 hb.lan]; rfl]; rfl,
  show (rightA b.fw).2 = 0 from by rw [Lw.rightA_eq, if_pos (check_valid.2 hb.fw)]]
 simp
theorem right_fw (hr : rightX b = true) : isTrueF b.fw [] = true := by
 unfold rightX at hr
 rw [Lw.rightA_eq, if_pos (check_valid.2 hb.fw)] at hr
 exact (Bool.and_eq_true_iff.1 hr).2
end
theorem asks_in {sh load m : Int} (h1 : 0 ≤ sh ∧ sh ≤ 1) (h2 : 0 ≤ load ∧ load ≤ 200) (h3 : 0 ≤ m ∧ m ≤ 60) : (((isShoreX sh) && (isLoadX load)) && (isMinuteX m)) = true := by
 rw [isShoreX_iff.2 h1, isLoadX_iff.2 h2, isMinuteX_iff.2 h3]; rfl
section
variable {b : XBook} (hb : ValidX b) {sh load m : Int} (h1 : 0 ≤ sh ∧ sh ≤ 1) (h2 : 0 ≤ load ∧ load ≤ 200) (h3 : 0 ≤ m ∧ m ≤ 60)
include hb h1 h2 h3
theorem foundU_F (hr : rightX b = false) : foundU b sh load m = (0, 92) := by
 unfold foundU; rw [asks_in h1 h2 h3, err_valid hb, hr]; rfl
theorem sureA_T (hr : rightX b = true) : sureA b sh load m = (min (min (clearF b.fw [] m) (landsX b (sh, m) load)) (landsX b (arrivesX b (sh, m)) load), 0) := by
 unfold sureA
 rw [asks_in h1 h2 h3, err_valid hb, hr, Lw.clearA_T hb.fw (right_fw hb hr) h3.1 h3.2]
 simp only [if_true, least3, shoresX, leavesX]
 rfl
theorem foundU_T (hr : rightX b = true) : foundU b sh load m = if (firstU b (sh, m) load).2 then ((firstU b (sh, m) load).1, 0) else (0, 4) := by
 unfold foundU
 rw [asks_in h1 h2 h3, err_valid hb, hr]
 cases (firstU b (sh, m) load).2 <;> rfl
theorem sureL_T (hr : rightX b = true) : sureL b sh load m = sureX b (sh, m) load := by
 rw [Bool.eq_iff_iff, sureX_iff h1]
 unfold sureL
 rw [sureA_T hb h1 h2 h3 hr]
 have hc := Lw.clear_in hb.fw (right_fw hb hr) m
 have x1 := landsX_range b (sh, m) load
 have x2 := landsX_range b (arrivesX b (sh, m)) load
 rw [Lw.freeA_T hb.fw (right_fw hb hr), Lw.mem_foundF]
 simp only [Bool.and_eq_true, beq_iff_eq, true_and]
 generalize clearF b.fw [] m = c at *
 generalize landsX b (sh, m) load = x at *
 generalize landsX b (arrivesX b (sh, m)) load = y at *
 omega
end
def nxt (S : Int → Bool) (m : Int) : Option Int := ((List.range 61).find? fun k : Nat => decide (m ≤ (k : Int)) && S k).map fun k : Nat => (k : Int)
theorem find_range_some {N : Nat} {p : Nat → Bool} {k : Nat} : (List.range N).find? p = some k ↔ k < N ∧ p k = true ∧ ∀ j, j < k → p j = false := by
 rw [List.find?_range_eq_some]
 simp only [List.mem_range, Bool.not_eq_true', and_comm, and_left_comm]
theorem nxt_some {S : Int → Bool} {m x : Int} : nxt S m = some x ↔ ((0 ≤ x ∧ x ≤ 60) ∧ m ≤ x) ∧ S x = true ∧ ∀ y, 0 ≤ y → m ≤ y → y < x → S y = false := by
 unfold nxt
 rw [Option.map_eq_some_iff]
 constructor
 ·rintro ⟨k, hk, rfl⟩
  obtain ⟨h1, h2, h3⟩ := find_range_some.1 hk
  simp only [Bool.and_eq_true, decide_eq_true_eq] at h2
  refine ⟨⟨by omega, h2.1⟩, h2.2, fun y h0 h4 h5 => ?_⟩
  have := h3 y.toNat (by omega)
  rw [show ((y.toNat : Nat) : Int) = y by omega, decide_eq_true h4, Bool.true_and] at this
  exact this
 rintro ⟨⟨h1, h2⟩, h3, h4⟩
 refine ⟨x.toNat, find_range_some.2 ⟨by omega, ?_, fun j hj => ?_⟩, by omega⟩
 ·rw [show ((x.toNat : Nat) : Int) = x by omega, decide_eq_true h2, h3]; rfl
 cases h5 : decide (m ≤ (j : Int)) with
 | false => rfl
 | true => rw [h4 j (by omega) (of_decide_eq_true h5) (by omega)]; rfl
theorem nxt_none {S : Int → Bool} {m : Int} : nxt S m = none ↔ ∀ y, 0 ≤ y → m ≤ y → y ≤ 60 → S y = false := by
 unfold nxt
 rw [Option.map_eq_none_iff, List.find?_eq_none]
 constructor
 ·intro h y h0 h1 h2
  have := h y.toNat (List.mem_range.2 (by omega))
  rw [show ((y.toNat : Nat) : Int) = y by omega, decide_eq_true h1, Bool.true_and] at this
  simpa using this
 intro h k hk
 have hk := List.mem_range.1 hk
 simp only [Bool.and_eq_true, decide_eq_true_eq, not_and]
 intro h1
 rw [h k (by omega) h1 (by omega)]; decide
theorem nxt_congr {S T : Int → Bool} {m : Int} (h : ∀ y, 0 ≤ y → y ≤ 60 → S y = T y) : nxt S m = nxt T m := by
 unfold nxt
 congr 1
 have key : ∀ l : List Nat, (∀ k ∈ l, k ≤ 60) → l.find? (fun k : Nat => decide (m ≤ (k : Int)) && S k) = l.find? (fun k : Nat => decide (m ≤ (k : Int)) && T k) := by
  intro l
  induction l with
  | nil => intro _; rfl
  | cons x r ih =>
   intro hl
   simp only [List.find?_cons]
   rw [h x (by omega) (by have := hl x List.mem_cons_self; omega), ih fun k hk => hl k (List.mem_cons_of_mem _ hk)]
 exact key _ fun k hk => by have := List.mem_range.1 hk; omega
def SX (b : XBook) (sh load m : Int) : Bool := sureX b (sh, m) load
theorem firstU_nxt {b : XBook} {sh load m : Int} (h0 : 0 ≤ m) : firstU b (sh, m) load = match nxt (SX b sh load) m with | some x => (x, true) | none => (0, false) := by
 have hf := firstU_is (b := b) (p := (sh, m)) (load := load) h0
 generalize hr : firstU b (sh, m) load = r at hf
 obtain ⟨r1, r2⟩ := r
 cases r2 with
 | true =>
  obtain ⟨⟨h1, h2⟩, h3, h4⟩ := hf.yes rfl
  have : nxt (SX b sh load) m = some r1 := nxt_some.2 ⟨⟨⟨by simp only at h1; omega, h2⟩, h1⟩, h3, fun y _ h5 h6 => h4 y h5 h6⟩
  rw [this]
 | false =>
  obtain ⟨h1, h2⟩ := hf.no rfl
  have : nxt (SX b sh load) m = none := nxt_none.2 fun y _ h3 h4 => h2 y h3 h4
  rw [this]
  simp only at h1; rw [h1]
def goT (S : Int → Int → Int → Bool) (cr turn : Int) : List Trip → Int → Int → List (Int × Int)
 | [], _, _ => []
 | x :: r, sh, m => match nxt (S sh x.load) (max m x.ready) with
  | none => []
  | some n => (max m x.ready, n) :: goT S cr turn r (1 - sh) (n + cr + turn)
def sumW (l : List (Int × Int)) : Int := l.foldl (fun n x => n + (x.2 - x.1)) 0
theorem foldl_add (l : List (Int × Int)) (a : Int) : l.foldl (fun n x => n + (x.2 - x.1)) a = a + sumW l := by
 unfold sumW
 induction l generalizing a with
 | nil => simp
 | cons x r ih => simp only [List.foldl_cons]; rw [ih, ih (0 + _)]; omega
theorem sumW_cons (x : Int × Int) (l : List (Int × Int)) : sumW (x :: l) = (x.2 - x.1) + sumW l := by
 show l.foldl _ (0 + (x.2 - x.1)) = _
 rw [foldl_add]; omega
def goB (b : XBook) : List (Int × Int) := goT (SX b) b.fw.cr b.turn b.trips b.shore 0
theorem depart_go {b : XBook} (hcr : 1 ≤ b.fw.cr ∧ b.fw.cr ≤ 20) (htu : 0 ≤ b.turn ∧ b.turn ≤ 30) (hnt : b.trips.length ≤ 4) (hrd : ∀ x ∈ b.trips, 0 ≤ x.ready ∧ x.ready ≤ 60) : ∀ (r : Nat) (p : Int × Int) (ds : List Int) (wt : Int), ds.length + r = b.trips.length → (0 ≤ p.1 ∧ p.1 ≤ 1) → (0 ≤ p.2 ∧ p.2 ≤ 200) → (-1000 * ds.length ≤ wt ∧ wt ≤ 1000 * ds.length) →
  departD b r p ds wt = (ds ++ (goT (SX b) b.fw.cr b.turn (b.trips.drop ds.length) p.1 p.2).map Prod.snd, wt + sumW (goT (SX b) b.fw.cr b.turn (b.trips.drop ds.length) p.1 p.2)) := by
 intro r
 induction r with
 | zero =>
  intro p ds wt h1 _ _ _
  have : b.trips.drop ds.length = [] := List.drop_eq_nil_iff.2 (by omega)
  rw [this]
  unfold departD departS
  rw [show ((ds.length : Int) == (b.trips.length : Int)) = true from by simp; omega]
  simp [goT, sumW]
 | succ r ih =>
  intro p ds wt h1 hp h2 hw
  have hlt : ds.length < b.trips.length := by omega
  have hdr : b.trips.drop ds.length = b.trips.getD ds.length zTrip :: b.trips.drop (ds.length + 1) := by
   rw [List.drop_eq_getElem_cons hlt, List.getD_eq_getElem?_getD, List.getElem?_eq_getElem hlt]; rfl
  have hrx := hrd _ (getD_mem (z := zTrip) hlt)
  rw [hdr]
  generalize b.trips.getD ds.length zTrip = x at *
  have hm : mx p.2 x.ready = max p.2 x.ready := mx_spec _ _
  unfold departD departS
  rw [show ((ds.length : Int) == (b.trips.length : Int)) = false from by simp; omega]
  simp only [cond_false, show ((ds.length : Int)).toNat = ds.length by omega]
  have hdr2 : b.trips.getD ds.length zTrip = x := by
   have := congrArg List.head? hdr
   rw [List.drop_eq_getElem_cons hlt] at this
   simp only [List.head?_cons, Option.some.injEq] at this
   rw [List.getD_eq_getElem?_getD, List.getElem?_eq_getElem hlt]; exact this
  rw [hdr2, hm, firstU_nxt (by omega)]
  simp only [goT]
  cases hn : nxt (SX b p.1 x.load) (max p.2 x.ready) with
  | none => simp [sumW]
  | some n =>
   obtain ⟨⟨hn1, hn2⟩, _, _⟩ := nxt_some.1 hn
   simp only [Bool.not_true, cond_false]
   have w1 : IntKind.i64.wrap (1 - p.1) = 1 - p.1 := wrapI (by omega) (by omega)
   have w2 : IntKind.i64.wrap (n + b.fw.cr) = n + b.fw.cr := wrapI (by omega) (by omega)
   have w3 : IntKind.i64.wrap (n + b.fw.cr + b.turn) = n + b.fw.cr + b.turn := wrapI (by omega) (by omega)
   have w4 : IntKind.i64.wrap (wt + n) = wt + n := wrapI (by omega) (by omega)
   have w5 : IntKind.i64.wrap (wt + n - max p.2 x.ready) = wt + n - max p.2 x.ready := wrapI (by omega) (by omega)
   simp only [arrivesX, w1, w2, w3, w4, w5]
   rw [ih _ _ _ (by rw [List.length_append, List.length_singleton]; omega) ⟨by show 0 ≤ 1 - p.1; omega, by show 1 - p.1 ≤ 1; omega⟩ ⟨by show 0 ≤ n + b.fw.cr + b.turn; omega, by show n + b.fw.cr + b.turn ≤ 200; omega⟩ (by rw [List.length_append, List.length_singleton]; omega)]
   rw [List.length_append, List.length_singleton, sumW_cons]
   refine Prod.ext ?_ ?_
   ·simp
   simp only; omega
theorem plan_go {b : XBook} (hb : ValidX b) : planX b = ((goB b).map Prod.snd, sumW (goB b)) := by
 unfold planX
 have h := depart_go hb.fw.cr hb.turn hb.nt.2 (fun x hx => (hb.trips x hx).2) b.trips.length (b.shore, 0) [] 0 (by simp) hb.shore ⟨by simp, by simp⟩ ⟨by simp, by simp⟩
 simp only [List.length_nil, List.drop_zero, List.nil_append, Int.zero_add] at h
 rw [h]; rfl
theorem goT_len (S : Int → Int → Int → Bool) (cr turn : Int) : ∀ (l : List Trip) (sh m : Int), (goT S cr turn l sh m).length ≤ l.length := by
 intro l
 induction l with
 | nil => intro sh m; exact Nat.le_refl _
 | cons x r ih =>
  intro sh m
  simp only [goT]
  cases nxt (S sh x.load) (max m x.ready) with
  | none => simp
  | some n => simp only [List.length_cons]; have := ih (1 - sh) (n + cr + turn); omega
theorem goT_congr {S T : Int → Int → Int → Bool} {cr turn : Int} : ∀ (l : List Trip) (sh m : Int), (0 ≤ sh ∧ sh ≤ 1) → (∀ x ∈ l, ∀ sh, 0 ≤ sh → sh ≤ 1 → ∀ y, 0 ≤ y → y ≤ 60 → S sh x.load y = T sh x.load y) → goT S cr turn l sh m = goT T cr turn l sh m := by
 intro l
 induction l with
 | nil => intro sh m _ _; rfl
 | cons x r ih =>
  intro sh m hs h
  simp only [goT]
  rw [nxt_congr (h x List.mem_cons_self sh hs.1 hs.2)]
  cases nxt (T sh x.load) (max m x.ready) with
  | none => rfl
  | some n => simp only; rw [ih _ _ (by omega) fun y hy => h y (List.mem_cons_of_mem _ hy)]
theorem mod2 (n : Int) : 0 ≤ modF n 2 ∧ modF n 2 ≤ 1 := by have := modF_in n 2 (by omega) (by omega); omega
theorem mod201 (n : Int) : 0 ≤ modF n 201 ∧ modF n 201 ≤ 200 := by have := modF_in n 201 (by omega) (by omega); omega
theorem mod61 (n : Int) : 0 ≤ modF n 61 ∧ modF n 61 ≤ 60 := by have := modF_in n 61 (by omega) (by omega); omega
end Go.Proofs.YtpfglknbkpcfnaaDoor.X
