/- Parts of the proof of CrossingNext: the engine, contracts of functions, plain lemmas. -/
import Derived.Test.YtpfglknbkpcfnaaDoorCrossingNextA2
import Derived.ArgAppend
import Derived.Below
import Derived.Carry
import Derived.ChangeKeysEq
import Derived.ControlIn
import Derived.Deep.DeepHandedRow
import Derived.Deep.Draws
import Derived.Deep.Quiet
import Derived.Deep.Slices
import Derived.KernelRfl
import Derived.Laws.AppendOwn
import Derived.Laws.Cells
import Derived.Laws.CopyRow
import Derived.Laws.IdiomCopy
import Derived.Laws.IdiomRangeMap
import Derived.Laws.OwnMore
import Derived.Laws.Rows
import Derived.MapKept
import Derived.Maps.AppendAt
import Derived.OpenShut
import Derived.OrdersHeld
import Derived.OrdersIn
import Derived.ProofKit
import Derived.RangeFuncLeaves
import Derived.RangeFuncNested
import Derived.RangeFuncOwn
import Derived.SizedLaws
import Derived.Test.YtpfglknbkpcfnaaDoorProg
import Derived.Test.YtpfglknbkpcfnaaDoorRows
import Derived.WalkKit
import Derived.WideKeyRuns
set_option linter.all false
namespace Go.Proofs.YtpfglknbkpcfnaaDoor.X
open Go Go.RowKit Go.Proofs.YtpfglknbkpcfnaaDoor.Eng Go.Proofs.YtpfglknbkpcfnaaDoor.Fw
def UnknownAt (w : World) : Prop := w.heap[4]? = some (.cells #[iv (-41), iv (-41)] 148 (0, 0))
def NowhereAt (w : World) : Prop := w.heap[3]? = some (.cells #[iv (-1), iv (-1)] 136 (0, 0))
def from2_c1 (x : LBook) (can : List (Int × Int)) (f : Int × Int) (k1 : Nat) : Unit → Bool := fun _ => decide ((k1 : Int) < (x.tides.length : Int))
def from2_b1 (x : LBook) (can : List (Int × Int)) (f : Int × Int) (k1 : Nat) : Unit → Bd Unit Unit := fun _ => (bif (([f.1, f.2] : List Int) == [(-41), (-41)]) || (!(someD (⟨x, can⟩ : LOpen) (k1 : Int) f)) then .ret () else .go ())
def leafD (x : LBook) (can : List (Int × Int)) (f : Int × Int) : List (Int × Int) := match loopR (from2_c1 x can f) (from2_b1 x can f) x.tides.length 0 () with
 | .brk _ => [f]
 | .ret _ => []
def leafF (x : LBook) (f : Int × Int) : List (Int × Int) := leafD x [] f
def n1F (x : LBook) : Nat := (x.shores.2.fl.hi - x.shores.2.fl.lo + 1).toNat
def n0F (x : LBook) : Nat := (x.shores.1.fl.hi - x.shores.1.fl.lo + 1).toNat
def row1F (x : LBook) (a : Int) (k : Nat) : List (Int × Int) := (List.range k).flatMap fun q : Nat => leafF x (a, x.shores.2.fl.lo + q)
def rowsF (x : LBook) (k : Nat) : List (Int × Int) := (List.range k).flatMap fun q : Nat => row1F x (x.shores.1.fl.lo + q) (n1F x)
theorem row1F_succ (x : LBook) (a : Int) (k : Nat) : row1F x a (k + 1) = row1F x a k ++ leafF x (a, x.shores.2.fl.lo + k) := by
 unfold row1F
 rw [List.range_succ, List.flatMap_append]
 simp
theorem rowsF_succ (x : LBook) (k : Nat) : rowsF x (k + 1) = rowsF x k ++ row1F x (x.shores.1.fl.lo + k) (n1F x) := by
 unfold rowsF
 rw [List.range_succ, List.flatMap_append]
 simp
theorem leafF_len (x : LBook) (f : Int × Int) : (leafF x f).length ≤ 1 := by
 unfold leafF leafD
 split <;> simp
theorem row1F_len (x : LBook) (a : Int) (k : Nat) : (row1F x a k).length ≤ k := by
 induction k with
 | zero => simp [row1F]
 | succ k ih =>
  rw [row1F_succ, List.length_append]
  have := leafF_len x (a, x.shores.2.fl.lo + k)
  omega
theorem rowsF_len (x : LBook) (k : Nat) : (rowsF x k).length ≤ n1F x * k := by
 induction k with
 | zero => simp [rowsF]
 | succ k ih =>
  rw [rowsF_succ, List.length_append, Nat.mul_succ]
  have := row1F_len x (x.shores.1.fl.lo + k) (n1F x)
  omega
theorem from2_calls (x : LBook) (hv : ValidL x) (gm : Nat) (DL : List DRow) (hS : DL.map dkStrip = deepS x) (fa fb ga gb : Int) (can : List (Int × Int)) (f : Int × Int) (hcl : can.length ≤ 1000) (cx : Cx) (n : Vn) (w : World) (hm : cx.m0 ≤ 13) (hh : HSat cx n ⟨0, [], (roL x [(2, .pf (DeepAt encI gm DL) (ftR gm DL)), (3, .pf UnknownAt (· = 4)), (4, .box 30 (lR x)), (5, .box 128 zM), (6, .box 147 [.ref 8]), (7, .box 128 (lanC (.ref 0) x [.ref 1, .v (.map (some gm)), .ref 13])), (8, .clo 94 [] [.s (.p 4 0), .s (.p 6 0), .s (.p 7 0)]), (9, .box 148 [.int .i64 fa, .int .i64 fb]), (10, .box 24 [.int .i64 x.shores.1.fl.lo, .int .i64 x.shores.1.fl.hi]), (11, .box 148 [.int .i64 ga, .int .i64 gb]), (12, .box 24 [.int .i64 x.shores.2.fl.lo, .int .i64 x.shores.2.fl.hi]), (13, .sl .own 148 2 can encPr zPr)]), 14, []⟩ w) : Calls Tryd.prog 94 (([.g [.int .i64 f.1, .int .i64 f.2], .s (.int .i64 2), .s (.p 4 0), .s (.p 6 0), .s (.p 7 0)] : List AV).map (AV.c n)).toArray w fun e w' => e = .returned (.tuple #[]) ∧ ∃ n', (∀ id, id < 13 → n' id = n id) ∧ HSat cx n' ⟨0, [], (roL x [(2, .pf (DeepAt encI gm DL) (ftR gm DL)), (3, .pf UnknownAt (· = 4)), (4, .box 30 (lR x)), (5, .box 128 zM), (6, .box 147 [.ref 8]), (7, .box 128 (lanC (.ref 0) x [.ref 1, .v (.map (some gm)), .ref 13])), (8, .clo 94 [] [.s (.p 4 0), .s (.p 6 0), .s (.p 7 0)]), (9, .box 148 [.int .i64 fa, .int .i64 fb]), (10, .box 24 [.int .i64 x.shores.1.fl.lo, .int .i64 x.shores.1.fl.hi]), (11, .box 148 [.int .i64 ga, .int .i64 gb]), (12, .box 24 [.int .i64 x.shores.2.fl.lo, .int .i64 x.shores.2.fl.hi]), (13, .sl .own 148 2 (can ++ leafF x f) encPr zPr)]), 14, []⟩ w' := by
 have hh2 : HSat ⟨cx.w0, cx.ok, n, 13, true⟩ n ⟨61, env0 0 [.g [.int .i64 f.1, .int .i64 f.2], .s (.int .i64 2), .s (.p 4 0), .s (.p 6 0), .s (.p 7 0)], (roL x [(2, .pf (DeepAt encI gm DL) (ftR gm DL)), (3, .pf UnknownAt (· = 4)), (4, .box 30 (lR x)), (5, .box 128 zM), (6, .box 147 [.ref 8]), (7, .box 128 (lanC (.ref 0) x [.ref 1, .v (.map (some gm)), .ref 13])), (8, .clo 94 [] [.s (.p 4 0), .s (.p 6 0), .s (.p 7 0)]), (9, .box 148 [.int .i64 fa, .int .i64 fb]), (10, .box 24 [.int .i64 x.shores.1.fl.lo, .int .i64 x.shores.1.fl.hi]), (11, .box 148 [.int .i64 ga, .int .i64 gb]), (12, .box 24 [.int .i64 x.shores.2.fl.lo, .int .i64 x.shores.2.fl.hi]), (13, .sl .own 148 2 can encPr zPr)]), 14, []⟩ w := ⟨hh.fr, fun _ _ => rfl, by show 13 ≤ 14; decide, hh.one, hh.ents, fun x hx => HE.ok_same (hh.oks x hx) rfl rfl, hh.sep, hh.lt, hh.ids⟩
 refine calls_of_WP tt_ok Tryd.func94 rfl rfl rfl (by kernel_rfl) hh2 (vsOk (by kernel_rfl)) ?_
 have hlt := hv.nt
 refine WSA tt_ok ?_
 refine WP_seq (WSA tt_ok ?_)
 refine WP_cond (decide ((2 : Int) < 2)) (by kernel_rfl) (fun h => by cases h) (fun hc1 => ?_)
 refine WP_skip ?_
 refine WP_seq (WSA tt_ok ?_)
 refine WP_loopA (ρ := Unit) (from2_c1 x can f) (from2_b1 x can f) x.tides.length () (fun k : Nat => (k : Int)) (fun (ci : Int) (zz : Unit) => ⟨61, [(41, [], .s (.int .i64 ci)), (40, [], .s (.int .i64 (x.tides.length : Int))), (5, [], .s (.p 14 0)), (4, [], .s (.p 7 0))], ((14, .box 148 [.int .i64 f.1, .int .i64 f.2]) :: (roL x [(2, .pf (DeepAt encI gm DL) (ftR gm DL)), (3, .pf UnknownAt (· = 4)), (4, .box 30 (lR x)), (5, .box 128 zM), (6, .box 147 [.ref 8]), (7, .box 128 (lanC (.ref 0) x [.ref 1, .v (.map (some gm)), .ref 13])), (8, .clo 94 [] [.s (.p 4 0), .s (.p 6 0), .s (.p 7 0)]), (9, .box 148 [.int .i64 fa, .int .i64 fb]), (10, .box 24 [.int .i64 x.shores.1.fl.lo, .int .i64 x.shores.1.fl.hi]), (11, .box 148 [.int .i64 ga, .int .i64 gb]), (12, .box 24 [.int .i64 x.shores.2.fl.lo, .int .i64 x.shores.2.fl.hi]), (13, .sl .own 148 2 can encPr zPr)])), 15, []⟩) (fun zz : Unit => ⟨61, [(5, [], .s (.p 14 0)), (4, [], .s (.p 7 0))], ((14, .box 148 [.int .i64 f.1, .int .i64 f.2]) :: (roL x [(2, .pf (DeepAt encI gm DL) (ftR gm DL)), (3, .pf UnknownAt (· = 4)), (4, .box 30 (lR x)), (5, .box 128 zM), (6, .box 147 [.ref 8]), (7, .box 128 (lanC (.ref 0) x [.ref 1, .v (.map (some gm)), .ref 13])), (8, .clo 94 [] [.s (.p 4 0), .s (.p 6 0), .s (.p 7 0)]), (9, .box 148 [.int .i64 fa, .int .i64 fb]), (10, .box 24 [.int .i64 x.shores.1.fl.lo, .int .i64 x.shores.1.fl.hi]), (11, .box 148 [.int .i64 ga, .int .i64 gb]), (12, .box 24 [.int .i64 x.shores.2.fl.lo, .int .i64 x.shores.2.fl.hi]), (13, .sl .own 148 2 can encPr zPr)])), 15, []⟩) (fun k zz => True) trivial ⟨0, rfl, Le_sel (ts := [41, 40, 5, 4]) (ids := [14, 0, 1, 2, 3, 4, 5, 6, 7, 8, 9, 10, 11, 12, 13]) (nx := 15) (by kernel_rfl)⟩ ?_ ?_
 ·intro k1 zz hn1 hp1 hi1 Q1 hq1 ho1
  refine WSA tt_ok ?_
  refine WP_seq (WP_cond (decide ((k1 : Int) < (x.tides.length : Int))) (by kernel_rfl) (fun hc2 => ?_) (fun hc2 => ?_))
  rotate_left
  ·refine WP_exit ?_
   show Q1 (.exit 2) _
   exact LA_exit hq1 () (loopR_end hi1 hc2) ⟨k1, hn1, hp1⟩ (Le_sel (ts := [5, 4]) (ids := [14, 0, 1, 2, 3, 4, 5, 6, 7, 8, 9, 10, 11, 12, 13]) (nx := 15) (by kernel_rfl))
  have hc2' := of_decide_eq_true hc2
  have hk1 : k1 < x.tides.length := by omega
  have hh0 : 0 ≤ (k1 : Int) ∧ (k1 : Int) < x.tides.length := by omega
  refine WP_skip ?_
  refine WP_seq (WP_block ?_)
  refine WSA tt_ok ?_
  refine WSR tt_ok 1 ?_
  refine LDGo tt_ok 148 4 0 (some 45) [.int .i64 (-41), .int .i64 (-41)] 148 (.g [.int .i64 (-41), .int .i64 (-41)]) (by kernel_rfl) (by kernel_rfl) (by kernel_rfl) (fun nV w h => (h.fu 3 4 UnknownAt)) (by kernel_rfl) ?_
  refine BIN .eql 148 (.tmp 44) (.tmp 45) (.g [.int .i64 f.1, .int .i64 f.2]) (.g [.int .i64 (-41), .int .i64 (-41)]) (.s (.bool (([f.1, f.2] : List Int) == [(-41), (-41)]))) [] (by kernel_rfl) (by kernel_rfl) (by kernel_rfl) (fun _ => (BinOk_arrI (m := 2) (xs := [f.1, f.2]) (ys := [(-41), (-41)]) (by kernel_rfl) rfl rfl).1) ?_
  refine WPO_run tt_ok 4 (by kernel_rfl) ?_
  refine CAL 95 [.g (lanC (.ref 0) x [.ref 1, .v (.map (some gm)), .ref 13]), .s (.int .i64 (k1 : Int)), .g [.int .i64 f.1, .int .i64 f.2]] (.s (.bool (someD (⟨x, can⟩ : LOpen) (k1 : Int) f))) [(([f.1, f.2] : List Int) == [(-41), (-41)], false)] (fun hG nV w h => someD_calls (nV 0) (nV 1) (nV 13) gm DL (⟨x, can⟩ : LOpen) (k1 : Int) f w (h.rd 0 24) (h.rd 1 112) (h.reads (id := 13) (kd := .own) (e := 148) (by kernel_rfl)) (h.ents (2, .pf (DeepAt encI gm DL) (ftR gm DL)) (fnd_mem (by kernel_rfl))).1 (by first | assumption | omega) (by first | assumption | omega) (by first | assumption | omega)) ?_
  refine WPA tt_ok ?_
  refine WP_cond ((([f.1, f.2] : List Int) == [(-41), (-41)]) || (!(someD (⟨x, can⟩ : LOpen) (k1 : Int) f))) (by kernel_rfl) (fun hc4 => ?_) (fun hc4 => ?_)
  ·have hc4' := hc4; try simp only [bfs, ne_eq] at hc4'
   refine WP_ret ?_
   show Q1 .ret _
   refine LA_ret hq1 ?_
   have he5 := loopR_ret (r := ()) hi1 hk1 hc2 (by unfold from2_b1; simp only [hc4, cond_true, cond_false])
   have e : can ++ leafF x f = can := (by show can ++ leafD x can f = _; unfold leafD; rw [he5]; exact List.append_nil _)
   rw [e]
   exact ⟨.t [], by kernel_rfl, fun n1 w' h => ⟨rfl, fun id => n1 (rnm [] id), fun id hid => by show n1 (rnm [] id) = n id; rw [rnm_id (m := 13) (by kernel_rfl) id hid]; exact h.ini id hid, HSat.back (cx := cx) (n := n) (m := 13) (b := true) (h.ren (s2 := ⟨0, [], (roL x [(2, .pf (DeepAt encI gm DL) (ftR gm DL)), (3, .pf UnknownAt (· = 4)), (4, .box 30 (lR x)), (5, .box 128 zM), (6, .box 147 [.ref 8]), (7, .box 128 (lanC (.ref 0) x [.ref 1, .v (.map (some gm)), .ref 13])), (8, .clo 94 [] [.s (.p 4 0), .s (.p 6 0), .s (.p 7 0)]), (9, .box 148 [.int .i64 fa, .int .i64 fb]), (10, .box 24 [.int .i64 x.shores.1.fl.lo, .int .i64 x.shores.1.fl.hi]), (11, .box 148 [.int .i64 ga, .int .i64 gb]), (12, .box 24 [.int .i64 x.shores.2.fl.lo, .int .i64 x.shores.2.fl.hi]), (13, .sl .own 148 2 can encPr zPr)]), 14, []⟩) [] (by repeat (first | exact trivial | refine ⟨by kernel_rfl, ?_⟩)) (by kernel_rfl) (by kernel_rfl) (rnm_id (m := 13) (by kernel_rfl)) (by show 13 ≤ 14; decide)) (fun id hid => hh.ini id hid) hm⟩⟩
  have hc4' := hc4; try simp only [bfs, ne_eq] at hc4'
  refine WP_skip ?_
  refine WRA tt_ok ?_
  show Q1 .normal _
  exact LA_go hq1 (ci := IntKind.i64.wrap ((k1 : Int) + 1)) () hk1 (by show _ = ((k1 + 1 : Nat) : Int); rw [wrapI (by omega) (by omega)]; omega) (loopR_go hi1 hk1 hc2 (by unfold from2_b1; simp only [hc4, cond_true, cond_false])) trivial (Le_sel (ts := [41, 40, 5, 4]) (ids := [14, 0, 1, 2, 3, 4, 5, 6, 7, 8, 9, 10, 11, 12, 13]) (nx := 15) (by kernel_rfl))
 intro zz hR1 hP1 s' hl
 refine WP_le hl ?_
 clear hl s'
 refine WP_region (WPO_run tt_ok 3 (by kernel_rfl) ?_)
 refine LIT tt_ok (by kernel_rfl) ?_
 refine LITSL 15 148 1 2 [.int .i64 f.1, .int .i64 f.2] [f] encPr zPr (by kernel_rfl) rfl (fun _ => rfl) (fun n => rfl) ?_
 refine APP tt_ok (.s (.ref 13)) (.s (.ref 15)) 126 148 (some 59) 2 can ([f]) encPr zPr (by kernel_rfl) (by kernel_rfl) (by kernel_rfl) (by kernel_rfl) (.inr (.inl ⟨13, rfl, (by kernel_rfl)⟩)) (.inr ⟨15, .own, rfl, (by kernel_rfl), (by simp only [List.length_cons, List.length_nil]; omega)⟩) (by simp) (fun y => rfl) (fun y => List.all_eq_true.1 rfl) (fun i hi => (by have hby : (tyL tt 148).map (·.bytes) = some 16 := (by kernel_rfl); rw [hi] at hby; simp only [Option.map_some, Option.some.injEq] at hby; rw [hby]; simp only [List.length_append, List.length_cons, List.length_nil]; omega)) ?_
 refine WPA tt_ok ?_
 have e : can ++ leafF x f = can ++ ([f]) := (by show can ++ leafD x can f = _; unfold leafD; rw [hR1])
 rw [e]
 exact ⟨.t [], by kernel_rfl, fun n1 w' h => ⟨rfl, fun id => n1 (rnm [(13, 16)] id), fun id hid => by show n1 (rnm [(13, 16)] id) = n id; rw [rnm_id (m := 13) (by kernel_rfl) id hid]; exact h.ini id hid, HSat.back (cx := cx) (n := n) (m := 13) (b := true) (h.ren (s2 := ⟨0, [], (roL x [(2, .pf (DeepAt encI gm DL) (ftR gm DL)), (3, .pf UnknownAt (· = 4)), (4, .box 30 (lR x)), (5, .box 128 zM), (6, .box 147 [.ref 8]), (7, .box 128 (lanC (.ref 0) x [.ref 1, .v (.map (some gm)), .ref 13])), (8, .clo 94 [] [.s (.p 4 0), .s (.p 6 0), .s (.p 7 0)]), (9, .box 148 [.int .i64 fa, .int .i64 fb]), (10, .box 24 [.int .i64 x.shores.1.fl.lo, .int .i64 x.shores.1.fl.hi]), (11, .box 148 [.int .i64 ga, .int .i64 gb]), (12, .box 24 [.int .i64 x.shores.2.fl.lo, .int .i64 x.shores.2.fl.hi]), (13, .sl .own 148 2 (can ++ ([f])) encPr zPr)]), 14, []⟩) [(13, 16)] (by repeat (first | exact trivial | refine ⟨by kernel_rfl, ?_⟩)) (by kernel_rfl) (by kernel_rfl) (rnm_id (m := 13) (by kernel_rfl)) (by show 13 ≤ 14; decide)) (fun id hid => hh.ini id hid) hm⟩⟩
end Go.Proofs.YtpfglknbkpcfnaaDoor.X
namespace Go.Proofs.YtpfglknbkpcfnaaDoor.Eng
open Go Go.RowKit
def aixL (tt : TT) (ops : Array Oper) (s : AS) : List Oper → Option (AS × Int × Nat × List (Bool × Bool))
 | o :: _ => match o.op, gTag s ops o with
  | .indexAddr t x ix, some T => match ev s T x, ev s T ix with
   | some (.s (.p id off)), some (.s (.int _ i)) => match tyL tt t with
    | some ⟨_, _, _, .array m e⟩ => match tyL tt e with
     | some ei => bif isBox (fnd s.hp id) then (s.put o.dst T (.s (.p id (i.toNat * ei.size + off)))).map fun s' => (s', i, m, tagL s T) else none
     | none => none
    | _ => none
   | _, _ => none
  | _, _ => none
 | [] => none
section
variable {P : Program} {tt : TT} {cx : Cx} {s s' : AS} {Q : Exit → AS → Prop} {ops : Array Oper} {l : List Oper}
theorem aixl_sound (hT : TTok P tt) {r : AS × Int × Nat × List (Bool × Bool)} (h : aixL tt ops s l = some r) : ∃ (o : Oper) (rest : List Oper) (T : List (Nat × Bool)) (c : AC), l = o :: rest ∧ gTag s ops o = some T ∧ s.put o.dst T (.s c) = some r.1 ∧ r.2.2.2 = tagL s T ∧
  (0 ≤ r.2.1 ∧ r.2.1 < (r.2.2.1 : Int) → ∀ (cx : Cx) n a w, HSat cx n s w → (∀ x ∈ s.env, EntOk n s a x) → Holds a T → (∀ w1, (execOp a.eval o).run P w1 = .ok (.value ((AV.s c).c n)) w1) ∧ (AV.s c).ok s) := by
 cases l with
 | nil => cases h
 | cons o rest =>
  simp only [aixL] at h
  split at h <;> try (cases h; done)
  rename_i t x ix T ho hg
  split at h <;> try (cases h; done)
  rename_i id off k i hx hi
  split at h <;> try (cases h; done)
  rename_i z1 b1 zv m e ht
  split at h <;> try (cases h; done)
  rename_i ei hei
  rcases hb : isBox (fnd s.hp id) with _ | _
  ·rw [hb] at h; cases h
  rw [hb] at h
  obtain ⟨s', hs', rfl⟩ := Option.map_eq_some_iff.1 h
  refine ⟨o, rest, T, _, rfl, hg, hs', rfl, fun h0 cx n a w hh henv hH => ?_⟩
  obtain ⟨F⟩ := hT.get ht
  obtain ⟨G⟩ := hT.get hei
  have hd : F.desc = .array m e := by
   have := F.td
   cases hd : F.desc <;> rw [hd] at this <;> simp only [tdOf] at this <;> first
    | (cases this; done)
    | (injection this with h1 h2; rw [h1, h2])
  obtain ⟨e1, e3⟩ := ev_sound henv hH hx
  obtain ⟨e2, _⟩ := ev_sound henv hH hi
  obtain ⟨g, hv⟩ := box_addr hh hb
  simp only [AV.c, AC.c, hv, ptrAt] at e1 e2
  refine ⟨fun w1 => ?_, e3⟩
  unfold execOp
  rw [ho]
  simp only at h0
  simp only [Instr.indexAt, e1, e2, asIntOf, Sem.run_bind, Sem.run_pure, Result.andThen_ok, run_underlying F.hdesc, hd, Instr.sureAddr]
  rw [if_pos h0]
  simp only [Sem.run_bind, run_sizeOf' G, Result.andThen_ok, Sem.run_pure, AV.c, AC.c, hv, ptrAt, add_pl, Nat.add_comm]
theorem AIXL (hT : TTok P tt) (i : Int) (m : Nat) (G : List (Bool × Bool)) (h : (aixL tt ops s l).map (·.2) = some (i, m, G)) (h0 : AllEq G → 0 ≤ i ∧ i < (m : Int)) (hK : WPO P cx ops l.tail (((aixL tt ops s l).map (·.1)).getD s) Q) : WPO P cx ops l s Q := by
 obtain ⟨⟨s', i', m', G'⟩, hr, he⟩ := Option.map_eq_some_iff.1 h
 simp only [Prod.mk.injEq] at he
 obtain ⟨rfl, rfl, rfl⟩ := he
 obtain ⟨o, rest, T, c, rfl, hg, hs', hG, hrun⟩ := aixl_sound (P := P) hT hr
 simp only at hG hs' hrun
 rw [hr] at hK
 exact WPO_val hg hs' (fun hp n a w hh henv hH => (fun h => ⟨h.1 w, h.2⟩) (hrun (h0 (by rw [hG]; exact tagP_all hp)) cx n a w hh henv hH)) hK
end
section
variable {P : Program} {tt : TT} {cx : Cx} {s s0 s' : AS} {Q : Exit → AS → Prop} {ops : Array Oper}
theorem H_AIXL (hT : TTok P tt) (i : Nat) (x : Int) (m : Nat) (G : List (Bool × Bool)) {fuel : Nat} {listed : Array Bool} (h : (aixL tt ops s (opAt ops i)).map (·.2) = some (x, m, G)) (h0 : AllEq G → 0 ≤ x ∧ x < (m : Int)) (hs : Region.noSelect ops = true) (hb : takB ops listed i = true)
  (hK : WPH P cx ops s0 fuel (listed.setIfInBounds i true) (((aixL tt ops s (opAt ops i)).map (·.1)).getD s) Q) : WPH P cx ops s0 (fuel + 1) listed s Q := by
 obtain ⟨⟨s', i', m', G'⟩, hr, he⟩ := Option.map_eq_some_iff.1 h
 simp only [Prod.mk.injEq] at he
 obtain ⟨rfl, rfl, rfl⟩ := he
 obtain ⟨o, rest, T, c, hl, hg, hs', hG, hrun⟩ := aixl_sound (P := P) hT hr
 simp only at hG hs' hrun
 rw [hr] at hK
 exact H_takef i (opAt_cons hl) hg hs' (fun hp cx n a w hh henv hH => hrun (h0 (by rw [hG]; exact tagP_all hp)) cx n a w hh henv hH) hs hb hK
end
end Go.Proofs.YtpfglknbkpcfnaaDoor.Eng
namespace Go.Proofs.YtpfglknbkpcfnaaDoor.X
open Go Go.RowKit Go.Proofs.YtpfglknbkpcfnaaDoor.Eng Go.Proofs.YtpfglknbkpcfnaaDoor.Fw
theorem from1_calls (x : LBook) (hv : ValidL x) (gm : Nat) (DL : List DRow) (hS : DL.map dkStrip = deepS x) (fa fb : Int) (can : List (Int × Int)) (f : Int × Int) (hcl : can.length ≤ 900) (cx : Cx) (n : Vn) (w : World) (hm : cx.m0 ≤ 11) (hh : HSat cx n ⟨0, [], (roL x [(2, .pf (DeepAt encI gm DL) (ftR gm DL)), (3, .pf UnknownAt (· = 4)), (4, .box 30 (lR x)), (5, .box 128 zM), (6, .box 147 [.ref 8]), (7, .box 128 (lanC (.ref 0) x [.ref 1, .v (.map (some gm)), .ref 11])), (8, .clo 94 [] [.s (.p 4 0), .s (.p 6 0), .s (.p 7 0)]), (9, .box 148 [.int .i64 fa, .int .i64 fb]), (10, .box 24 [.int .i64 x.shores.1.fl.lo, .int .i64 x.shores.1.fl.hi]), (11, .sl .own 148 2 can encPr zPr)]), 12, []⟩ w) : Calls Tryd.prog 94 (([.g [.int .i64 f.1, .int .i64 f.2], .s (.int .i64 1), .s (.p 4 0), .s (.p 6 0), .s (.p 7 0)] : List AV).map (AV.c n)).toArray w fun e w' => e = .returned (.tuple #[]) ∧ ∃ n', (∀ id, id < 11 → n' id = n id) ∧ HSat cx n' ⟨0, [], (roL x [(2, .pf (DeepAt encI gm DL) (ftR gm DL)), (3, .pf UnknownAt (· = 4)), (4, .box 30 (lR x)), (5, .box 128 zM), (6, .box 147 [.ref 8]), (7, .box 128 (lanC (.ref 0) x [.ref 1, .v (.map (some gm)), .ref 11])), (8, .clo 94 [] [.s (.p 4 0), .s (.p 6 0), .s (.p 7 0)]), (9, .box 148 [.int .i64 fa, .int .i64 fb]), (10, .box 24 [.int .i64 x.shores.1.fl.lo, .int .i64 x.shores.1.fl.hi]), (11, .sl .own 148 2 (can ++ row1F x f.1 (n1F x)) encPr zPr)]), 12, []⟩ w' := by
 have hh2 : HSat ⟨cx.w0, cx.ok, n, 11, true⟩ n ⟨61, env0 0 [.g [.int .i64 f.1, .int .i64 f.2], .s (.int .i64 1), .s (.p 4 0), .s (.p 6 0), .s (.p 7 0)], (roL x [(2, .pf (DeepAt encI gm DL) (ftR gm DL)), (3, .pf UnknownAt (· = 4)), (4, .box 30 (lR x)), (5, .box 128 zM), (6, .box 147 [.ref 8]), (7, .box 128 (lanC (.ref 0) x [.ref 1, .v (.map (some gm)), .ref 11])), (8, .clo 94 [] [.s (.p 4 0), .s (.p 6 0), .s (.p 7 0)]), (9, .box 148 [.int .i64 fa, .int .i64 fb]), (10, .box 24 [.int .i64 x.shores.1.fl.lo, .int .i64 x.shores.1.fl.hi]), (11, .sl .own 148 2 can encPr zPr)]), 12, []⟩ w := ⟨hh.fr, fun _ _ => rfl, by show 11 ≤ 12; decide, hh.one, hh.ents, fun x hx => HE.ok_same (hh.oks x hx) rfl rfl, hh.sep, hh.lt, hh.ids⟩
 refine calls_of_WP tt_ok Tryd.func94 rfl rfl rfl (by kernel_rfl) hh2 (vsOk (by kernel_rfl)) ?_
 have hfl := hv.fl2
 have hnN : IntKind.i64.wrap (IntKind.i64.wrap (x.shores.2.fl.hi - x.shores.2.fl.lo) + 1) = (n1F x : Int) := by rw [wrapI (x := x.shores.2.fl.hi - x.shores.2.fl.lo) (by omega) (by omega), wrapI (by omega) (by omega)]; unfold n1F; omega
 refine WSA tt_ok ?_
 refine WP_seq (WSA tt_ok ?_)
 refine WP_cond (decide ((1 : Int) < 2)) (by kernel_rfl) (fun hc1 => ?_) (fun h => by cases h)
 refine WSR tt_ok 2 ?_
 refine AIXL tt_ok 1 2 [] (by kernel_rfl) (fun hG => by decide) ?_
 refine WPA tt_ok ?_
 refine WP_le (s' := ⟨61, [(1, [], .s (.int .i64 1)), (2, [], .s (.p 4 0)), (3, [], .s (.p 6 0)), (4, [], .s (.p 7 0)), (5, [], .s (.p 11 0)), (7, [], .s (.p 12 0))], (roL x [(2, .pf (DeepAt encI gm DL) (ftR gm DL)), (3, .pf UnknownAt (· = 4)), (4, .box 30 (lR x)), (5, .box 128 zM), (6, .box 147 [.ref 8]), (7, .box 128 (lanC (.ref 0) x [.ref 1, .v (.map (some gm)), .ref 13])), (8, .clo 94 [] [.s (.p 4 0), .s (.p 6 0), .s (.p 7 0)]), (9, .box 148 [.int .i64 fa, .int .i64 fb]), (10, .box 24 [.int .i64 x.shores.1.fl.lo, .int .i64 x.shores.1.fl.hi]), (11, .box 148 [.int .i64 f.1, .int .i64 f.2]), (12, .box 24 [.int .i64 x.shores.2.fl.lo, .int .i64 x.shores.2.fl.hi]), (13, .sl .own 148 2 can encPr zPr)]), 14, []⟩) (Le_ren [(11, 12), (12, 13), (13, 11)] (by repeat (first | exact trivial | refine ⟨by kernel_rfl, ?_⟩)) ⟨by kernel_rfl, rfl, by kernel_rfl, by kernel_rfl, rfl, by kernel_rfl, by kernel_rfl, rfl, by kernel_rfl, by kernel_rfl, rfl, by kernel_rfl, by kernel_rfl, rfl, by kernel_rfl, by kernel_rfl, rfl, by kernel_rfl, trivial⟩ (by kernel_rfl) (by kernel_rfl) (rnm_id (m := 11) (by kernel_rfl)) (by show 11 ≤ 14; decide) (by kernel_rfl) (by kernel_rfl)) ?_
 refine WP_seq (WSA tt_ok ?_)
 refine WP_block (WP_loop (σ := Int × Int × List (Int × Int)) (fun zz => ⟨61, [(23, [], .s (.int .i64 zz.1)), (22, [], .s (.int .i64 (IntKind.i64.wrap ((IntKind.i64.wrap (x.shores.2.fl.hi - x.shores.2.fl.lo)) + 1)))), (1, [], .s (.int .i64 1)), (2, [], .s (.p 4 0)), (3, [], .s (.p 6 0)), (4, [], .s (.p 7 0)), (5, [], .s (.p 11 0)), (7, [], .s (.p 12 0))], (roL x [(2, .pf (DeepAt encI gm DL) (ftR gm DL)), (3, .pf UnknownAt (· = 4)), (4, .box 30 (lR x)), (5, .box 128 zM), (6, .box 147 [.ref 8]), (7, .box 128 (lanC (.ref 0) x [.ref 1, .v (.map (some gm)), .ref 13])), (8, .clo 94 [] [.s (.p 4 0), .s (.p 6 0), .s (.p 7 0)]), (9, .box 148 [.int .i64 fa, .int .i64 fb]), (10, .box 24 [.int .i64 x.shores.1.fl.lo, .int .i64 x.shores.1.fl.hi]), (11, .box 148 [.int .i64 f.1, .int .i64 zz.2.1]), (12, .box 24 [.int .i64 x.shores.2.fl.lo, .int .i64 x.shores.2.fl.hi]), (13, .sl .own 148 2 zz.2.2 encPr zPr)]), 14, []⟩) (fun zz => ∃ k : Nat, k ≤ n1F x ∧ zz.1 = k ∧ zz.2.2 = can ++ row1F x f.1 k) (fun zz => n1F x - zz.1.toNat) (0, f.2, can) (⟨0, Nat.zero_le _, rfl, by simp [row1F]⟩) (Le_sel (ts := [23, 22, 1, 2, 3, 4, 5, 7]) (ids := [0, 1, 2, 3, 4, 5, 6, 7, 8, 9, 10, 11, 12, 13]) (nx := 14) (by kernel_rfl)) ?_)
 rintro ⟨ii, fv, cn⟩ hinv
 obtain ⟨k, hk0, hii, hcn⟩ := hinv
 simp only at hii hcn
 subst hii
 subst hcn
 refine WSA tt_ok ?_
 refine WP_seq (WP_cond (decide ((k : Int) < (IntKind.i64.wrap ((IntKind.i64.wrap (x.shores.2.fl.hi - x.shores.2.fl.lo)) + 1)))) (by kernel_rfl) (fun hc3 => ?_) (fun hc3 => ?_))
 ·have hc3' := of_decide_eq_true hc3
  rw [hnN] at hc3'
  have hk : k < n1F x := by omega
  have hk4 : (k : Int) ≤ 4 := by unfold n1F at hk; omega
  have hwr : IntKind.i64.wrap (x.shores.2.fl.lo + (k : Int)) = x.shores.2.fl.lo + (k : Int) := wrapI (by omega) (by omega)
  have hcl2 : (can ++ row1F x f.1 k).length ≤ 1000 := by have := row1F_len x f.1 k; rw [List.length_append]; omega
  refine WP_skip ?_
  refine WP_seq (WP_block ?_)
  refine WSA tt_ok ?_
  refine WSR tt_ok 5 ?_
  refine AIXL tt_ok 1 2 [] (by kernel_rfl) (fun hG => by decide) ?_
  refine WPA tt_ok ?_
  refine WP_region (WPO_run tt_ok 4 (by kernel_rfl) ?_)
  refine CALLF (σ := Unit) 94 [.g [.int .i64 f.1, .int .i64 (IntKind.i64.wrap (x.shores.2.fl.lo + (k : Int)))], .s (.int .i64 (IntKind.i64.wrap (1 + 1))), .s (.p 4 0), .s (.p 6 0), .s (.p 7 0)] 13 36 (fun _ => ⟨61, [(35, [], .s (.int .i64 (IntKind.i64.wrap (1 + 1)))), (34, [], .s (.int .i64 1)), (33, [], .g [.int .i64 f.1, .int .i64 (IntKind.i64.wrap (x.shores.2.fl.lo + (k : Int)))]), (32, [], .s (.ref 8)), (31, [], .s (.p 11 1)), (30, [], .s (.int .i64 (IntKind.i64.wrap (x.shores.2.fl.lo + (k : Int))))), (29, [], .s (.int .i64 (k : Int))), (28, [], .s (.int .i64 x.shores.2.fl.lo)), (27, [], .s (.p 12 0)), (26, [], .s (.int .i64 1)), (8, [], .s (.int .i64 (k : Int))), (25, [], .s (.int .i64 (k : Int))), (24, [], .s (.bool (decide ((k : Int) < (IntKind.i64.wrap ((IntKind.i64.wrap (x.shores.2.fl.hi - x.shores.2.fl.lo)) + 1)))))), (23, [], .s (.int .i64 (k : Int))), (22, [], .s (.int .i64 (IntKind.i64.wrap ((IntKind.i64.wrap (x.shores.2.fl.hi - x.shores.2.fl.lo)) + 1)))), (1, [], .s (.int .i64 1)), (2, [], .s (.p 4 0)), (3, [], .s (.p 6 0)), (4, [], .s (.p 7 0)), (5, [], .s (.p 11 0)), (7, [], .s (.p 12 0))], (roL x [(2, .pf (DeepAt encI gm DL) (ftR gm DL)), (3, .pf UnknownAt (· = 4)), (4, .box 30 (lR x)), (5, .box 128 zM), (6, .box 147 [.ref 8]), (7, .box 128 (lanC (.ref 0) x [.ref 1, .v (.map (some gm)), .ref 13])), (8, .clo 94 [] [.s (.p 4 0), .s (.p 6 0), .s (.p 7 0)]), (9, .box 148 [.int .i64 fa, .int .i64 fb]), (10, .box 24 [.int .i64 x.shores.1.fl.lo, .int .i64 x.shores.1.fl.hi]), (11, .box 148 [.int .i64 f.1, .int .i64 (IntKind.i64.wrap (x.shores.2.fl.lo + (k : Int)))]), (12, .box 24 [.int .i64 x.shores.2.fl.lo, .int .i64 x.shores.2.fl.hi]), (13, .sl .own 148 2 ((can ++ row1F x f.1 k) ++ leafF x (f.1, IntKind.i64.wrap (x.shores.2.fl.lo + (k : Int)))) encPr zPr)]), 14, []⟩) (by kernel_rfl) (goes_of (by kernel_rfl)) (fun _ => rfl) (fun _ => ⟨⟨by kernel_rfl, rfl, by kernel_rfl, by kernel_rfl, rfl, by kernel_rfl, by kernel_rfl, rfl, by kernel_rfl, by kernel_rfl, rfl, by kernel_rfl, by kernel_rfl, rfl, by kernel_rfl, by kernel_rfl, rfl, by kernel_rfl, by kernel_rfl, rfl, by kernel_rfl, by kernel_rfl, rfl, by kernel_rfl, by kernel_rfl, rfl, by kernel_rfl, by kernel_rfl, rfl, by kernel_rfl, by kernel_rfl, rfl, by kernel_rfl, by kernel_rfl, rfl, by kernel_rfl, by kernel_rfl, rfl, by kernel_rfl, by kernel_rfl, rfl, by kernel_rfl, by kernel_rfl, rfl, by kernel_rfl, by kernel_rfl, rfl, by kernel_rfl, by kernel_rfl, rfl, by kernel_rfl, by kernel_rfl, rfl, by kernel_rfl, by kernel_rfl, rfl, by kernel_rfl, by kernel_rfl, rfl, by kernel_rfl, by kernel_rfl, rfl, by kernel_rfl, trivial⟩, by kernel_rfl, by kernel_rfl, by kernel_rfl⟩) (fun n w1 h => ?call13) (fun _ => ?_)
  case call13 =>
   have h2 := wp_hp (s2 := ⟨0, [], (roL x [(2, .pf (DeepAt encI gm DL) (ftR gm DL)), (3, .pf UnknownAt (· = 4)), (4, .box 30 (lR x)), (5, .box 128 zM), (6, .box 147 [.ref 8]), (7, .box 128 (lanC (.ref 0) x [.ref 1, .v (.map (some gm)), .ref 13])), (8, .clo 94 [] [.s (.p 4 0), .s (.p 6 0), .s (.p 7 0)]), (9, .box 148 [.int .i64 fa, .int .i64 fb]), (10, .box 24 [.int .i64 x.shores.1.fl.lo, .int .i64 x.shores.1.fl.hi]), (11, .box 148 [.int .i64 f.1, .int .i64 (IntKind.i64.wrap (x.shores.2.fl.lo + (k : Int)))]), (12, .box 24 [.int .i64 x.shores.2.fl.lo, .int .i64 x.shores.2.fl.hi]), (13, .sl .own 148 2 (can ++ row1F x f.1 k) encPr zPr)]), 14, []⟩) h (by repeat (first | exact trivial | refine ⟨by kernel_rfl, ?_⟩)) (by kernel_rfl) (by kernel_rfl) (by show 11 ≤ 14; decide)
   exact (from2_calls x hv gm DL hS fa fb f.1 (IntKind.i64.wrap (x.shores.2.fl.lo + (k : Int))) (can ++ row1F x f.1 k) (f.1, IntKind.i64.wrap (x.shores.2.fl.lo + (k : Int))) hcl2 _ n w1 (by show 11 ≤ 13; decide) h2).mono fun e w' ⟨he, n', hag, hm'⟩ => ⟨(), n', ⟨_, he⟩, hag, hm'.slots⟩
  refine WPO_nil ?_
  refine WRA tt_ok ?_
  refine ⟨(IntKind.i64.wrap ((k : Int) + 1), IntKind.i64.wrap (x.shores.2.fl.lo + (k : Int)), (can ++ row1F x f.1 k) ++ leafF x (f.1, IntKind.i64.wrap (x.shores.2.fl.lo + (k : Int)))), ?_, ?_, Le_sel (ts := [23, 22, 1, 2, 3, 4, 5, 7]) (ids := [0, 1, 2, 3, 4, 5, 6, 7, 8, 9, 10, 11, 12, 13]) (nx := 14) (by kernel_rfl)⟩
  ·refine ⟨k + 1, by omega, by simp only; rw [wrapI (by omega) (by omega)]; rfl, ?_⟩
   simp only
   rw [row1F_succ, hwr, List.append_assoc]
  simp only
  rw [wrapI (by omega) (by omega)]
  omega
 have hc3' := of_decide_eq_false hc3
 refine WP_exit ?_
 rw [hnN] at hc3'
 have hkn : k = n1F x := by omega
 refine WP_ret ?_
 have e : can ++ row1F x f.1 (n1F x) = can ++ row1F x f.1 k := by rw [hkn]
 rw [e]
 exact ⟨.t [], by kernel_rfl, fun n1 w' h => ⟨rfl, fun id => n1 (rnm [(11, 13)] id), fun id hid => by show n1 (rnm [(11, 13)] id) = n id; rw [rnm_id (m := 11) (by kernel_rfl) id hid]; exact h.ini id hid, HSat.back (cx := cx) (n := n) (m := 11) (b := true) (h.ren (s2 := ⟨0, [], (roL x [(2, .pf (DeepAt encI gm DL) (ftR gm DL)), (3, .pf UnknownAt (· = 4)), (4, .box 30 (lR x)), (5, .box 128 zM), (6, .box 147 [.ref 8]), (7, .box 128 (lanC (.ref 0) x [.ref 1, .v (.map (some gm)), .ref 11])), (8, .clo 94 [] [.s (.p 4 0), .s (.p 6 0), .s (.p 7 0)]), (9, .box 148 [.int .i64 fa, .int .i64 fb]), (10, .box 24 [.int .i64 x.shores.1.fl.lo, .int .i64 x.shores.1.fl.hi]), (11, .sl .own 148 2 (can ++ row1F x f.1 k) encPr zPr)]), 12, []⟩) [(11, 13)] (by repeat (first | exact trivial | refine ⟨by kernel_rfl, ?_⟩)) (by kernel_rfl) (by kernel_rfl) (rnm_id (m := 11) (by kernel_rfl)) (by show 11 ≤ 12; decide)) (fun id hid => hh.ini id hid) hm⟩⟩
theorem from0_calls (x : LBook) (hv : ValidL x) (gm : Nat) (DL : List DRow) (hS : DL.map dkStrip = deepS x) (can : List (Int × Int)) (f : Int × Int) (hcl : can.length ≤ 800) (cx : Cx) (n : Vn) (w : World) (hm : cx.m0 ≤ 9) (hh : HSat cx n ⟨0, [], (roL x [(2, .pf (DeepAt encI gm DL) (ftR gm DL)), (3, .pf UnknownAt (· = 4)), (4, .box 30 (lR x)), (5, .box 128 zM), (6, .box 147 [.ref 8]), (7, .box 128 (lanC (.ref 0) x [.ref 1, .v (.map (some gm)), .ref 9])), (8, .clo 94 [] [.s (.p 4 0), .s (.p 6 0), .s (.p 7 0)]), (9, .sl .own 148 2 can encPr zPr)]), 10, []⟩ w) : Calls Tryd.prog 94 (([.g [.int .i64 f.1, .int .i64 f.2], .s (.int .i64 0), .s (.p 4 0), .s (.p 6 0), .s (.p 7 0)] : List AV).map (AV.c n)).toArray w fun e w' => e = .returned (.tuple #[]) ∧ ∃ n', (∀ id, id < 9 → n' id = n id) ∧ HSat cx n' ⟨0, [], (roL x [(2, .pf (DeepAt encI gm DL) (ftR gm DL)), (3, .pf UnknownAt (· = 4)), (4, .box 30 (lR x)), (5, .box 128 zM), (6, .box 147 [.ref 8]), (7, .box 128 (lanC (.ref 0) x [.ref 1, .v (.map (some gm)), .ref 9])), (8, .clo 94 [] [.s (.p 4 0), .s (.p 6 0), .s (.p 7 0)]), (9, .sl .own 148 2 (can ++ rowsF x (n0F x)) encPr zPr)]), 10, []⟩ w' := by
 have hh2 : HSat ⟨cx.w0, cx.ok, n, 9, true⟩ n ⟨61, env0 0 [.g [.int .i64 f.1, .int .i64 f.2], .s (.int .i64 0), .s (.p 4 0), .s (.p 6 0), .s (.p 7 0)], (roL x [(2, .pf (DeepAt encI gm DL) (ftR gm DL)), (3, .pf UnknownAt (· = 4)), (4, .box 30 (lR x)), (5, .box 128 zM), (6, .box 147 [.ref 8]), (7, .box 128 (lanC (.ref 0) x [.ref 1, .v (.map (some gm)), .ref 9])), (8, .clo 94 [] [.s (.p 4 0), .s (.p 6 0), .s (.p 7 0)]), (9, .sl .own 148 2 can encPr zPr)]), 10, []⟩ w := ⟨hh.fr, fun _ _ => rfl, by show 9 ≤ 10; decide, hh.one, hh.ents, fun x hx => HE.ok_same (hh.oks x hx) rfl rfl, hh.sep, hh.lt, hh.ids⟩
 refine calls_of_WP tt_ok Tryd.func94 rfl rfl rfl (by kernel_rfl) hh2 (vsOk (by kernel_rfl)) ?_
 have hfl := hv.fl1
 have hnN : IntKind.i64.wrap (IntKind.i64.wrap (x.shores.1.fl.hi - x.shores.1.fl.lo) + 1) = (n0F x : Int) := by rw [wrapI (x := x.shores.1.fl.hi - x.shores.1.fl.lo) (by omega) (by omega), wrapI (by omega) (by omega)]; unfold n0F; omega
 refine WSA tt_ok ?_
 refine WP_seq (WSA tt_ok ?_)
 refine WP_cond (decide ((0 : Int) < 2)) (by kernel_rfl) (fun hc1 => ?_) (fun h => by cases h)
 refine WSR tt_ok 2 ?_
 refine AIXL tt_ok 0 2 [] (by kernel_rfl) (fun hG => by decide) ?_
 refine WPA tt_ok ?_
 refine WP_le (s' := ⟨61, [(1, [], .s (.int .i64 0)), (2, [], .s (.p 4 0)), (3, [], .s (.p 6 0)), (4, [], .s (.p 7 0)), (5, [], .s (.p 9 0)), (7, [], .s (.p 10 0))], (roL x [(2, .pf (DeepAt encI gm DL) (ftR gm DL)), (3, .pf UnknownAt (· = 4)), (4, .box 30 (lR x)), (5, .box 128 zM), (6, .box 147 [.ref 8]), (7, .box 128 (lanC (.ref 0) x [.ref 1, .v (.map (some gm)), .ref 11])), (8, .clo 94 [] [.s (.p 4 0), .s (.p 6 0), .s (.p 7 0)]), (9, .box 148 [.int .i64 f.1, .int .i64 f.2]), (10, .box 24 [.int .i64 x.shores.1.fl.lo, .int .i64 x.shores.1.fl.hi]), (11, .sl .own 148 2 can encPr zPr)]), 12, []⟩) (Le_ren [(9, 10), (10, 11), (11, 9)] (by repeat (first | exact trivial | refine ⟨by kernel_rfl, ?_⟩)) ⟨by kernel_rfl, rfl, by kernel_rfl, by kernel_rfl, rfl, by kernel_rfl, by kernel_rfl, rfl, by kernel_rfl, by kernel_rfl, rfl, by kernel_rfl, by kernel_rfl, rfl, by kernel_rfl, by kernel_rfl, rfl, by kernel_rfl, trivial⟩ (by kernel_rfl) (by kernel_rfl) (rnm_id (m := 9) (by kernel_rfl)) (by show 9 ≤ 12; decide) (by kernel_rfl) (by kernel_rfl)) ?_
 refine WP_seq (WSA tt_ok ?_)
 refine WP_block (WP_loop (σ := Int × Int × List (Int × Int)) (fun zz => ⟨61, [(23, [], .s (.int .i64 zz.1)), (22, [], .s (.int .i64 (IntKind.i64.wrap ((IntKind.i64.wrap (x.shores.1.fl.hi - x.shores.1.fl.lo)) + 1)))), (1, [], .s (.int .i64 0)), (2, [], .s (.p 4 0)), (3, [], .s (.p 6 0)), (4, [], .s (.p 7 0)), (5, [], .s (.p 9 0)), (7, [], .s (.p 10 0))], (roL x [(2, .pf (DeepAt encI gm DL) (ftR gm DL)), (3, .pf UnknownAt (· = 4)), (4, .box 30 (lR x)), (5, .box 128 zM), (6, .box 147 [.ref 8]), (7, .box 128 (lanC (.ref 0) x [.ref 1, .v (.map (some gm)), .ref 11])), (8, .clo 94 [] [.s (.p 4 0), .s (.p 6 0), .s (.p 7 0)]), (9, .box 148 [.int .i64 zz.2.1, .int .i64 f.2]), (10, .box 24 [.int .i64 x.shores.1.fl.lo, .int .i64 x.shores.1.fl.hi]), (11, .sl .own 148 2 zz.2.2 encPr zPr)]), 12, []⟩) (fun zz => ∃ k : Nat, k ≤ n0F x ∧ zz.1 = k ∧ zz.2.2 = can ++ rowsF x k) (fun zz => n0F x - zz.1.toNat) (0, f.1, can) (⟨0, Nat.zero_le _, rfl, by simp [rowsF]⟩) (Le_sel (ts := [23, 22, 1, 2, 3, 4, 5, 7]) (ids := [0, 1, 2, 3, 4, 5, 6, 7, 8, 9, 10, 11]) (nx := 12) (by kernel_rfl)) ?_)
 rintro ⟨ii, fv, cn⟩ hinv
 obtain ⟨k, hk0, hii, hcn⟩ := hinv
 simp only at hii hcn
 subst hii
 subst hcn
 refine WSA tt_ok ?_
 refine WP_seq (WP_cond (decide ((k : Int) < (IntKind.i64.wrap ((IntKind.i64.wrap (x.shores.1.fl.hi - x.shores.1.fl.lo)) + 1)))) (by kernel_rfl) (fun hc3 => ?_) (fun hc3 => ?_))
 ·have hc3' := of_decide_eq_true hc3
  rw [hnN] at hc3'
  have hk : k < n0F x := by omega
  have hk4 : (k : Int) ≤ 4 := by unfold n0F at hk; omega
  have hwr : IntKind.i64.wrap (x.shores.1.fl.lo + (k : Int)) = x.shores.1.fl.lo + (k : Int) := wrapI (by omega) (by omega)
  have hcl2 : (can ++ rowsF x k).length ≤ 900 := by have h1 := rowsF_len x k; have h2 : n1F x ≤ 5 := (by unfold n1F; have := hv.fl2; omega); have h3 := Nat.mul_le_mul h2 (show k ≤ 4 by omega); rw [List.length_append]; omega
  refine WP_skip ?_
  refine WP_seq (WP_block ?_)
  refine WSA tt_ok ?_
  refine WSR tt_ok 5 ?_
  refine AIXL tt_ok 0 2 [] (by kernel_rfl) (fun hG => by decide) ?_
  refine WPA tt_ok ?_
  refine WP_region (WPO_run tt_ok 4 (by kernel_rfl) ?_)
  refine CALLF (σ := Unit) 94 [.g [.int .i64 (IntKind.i64.wrap (x.shores.1.fl.lo + (k : Int))), .int .i64 f.2], .s (.int .i64 (IntKind.i64.wrap (0 + 1))), .s (.p 4 0), .s (.p 6 0), .s (.p 7 0)] 11 36 (fun _ => ⟨61, [(35, [], .s (.int .i64 (IntKind.i64.wrap (0 + 1)))), (34, [], .s (.int .i64 0)), (33, [], .g [.int .i64 (IntKind.i64.wrap (x.shores.1.fl.lo + (k : Int))), .int .i64 f.2]), (32, [], .s (.ref 8)), (31, [], .s (.p 9 0)), (30, [], .s (.int .i64 (IntKind.i64.wrap (x.shores.1.fl.lo + (k : Int))))), (29, [], .s (.int .i64 (k : Int))), (28, [], .s (.int .i64 x.shores.1.fl.lo)), (27, [], .s (.p 10 0)), (26, [], .s (.int .i64 0)), (8, [], .s (.int .i64 (k : Int))), (25, [], .s (.int .i64 (k : Int))), (24, [], .s (.bool (decide ((k : Int) < (IntKind.i64.wrap ((IntKind.i64.wrap (x.shores.1.fl.hi - x.shores.1.fl.lo)) + 1)))))), (23, [], .s (.int .i64 (k : Int))), (22, [], .s (.int .i64 (IntKind.i64.wrap ((IntKind.i64.wrap (x.shores.1.fl.hi - x.shores.1.fl.lo)) + 1)))), (1, [], .s (.int .i64 0)), (2, [], .s (.p 4 0)), (3, [], .s (.p 6 0)), (4, [], .s (.p 7 0)), (5, [], .s (.p 9 0)), (7, [], .s (.p 10 0))], (roL x [(2, .pf (DeepAt encI gm DL) (ftR gm DL)), (3, .pf UnknownAt (· = 4)), (4, .box 30 (lR x)), (5, .box 128 zM), (6, .box 147 [.ref 8]), (7, .box 128 (lanC (.ref 0) x [.ref 1, .v (.map (some gm)), .ref 11])), (8, .clo 94 [] [.s (.p 4 0), .s (.p 6 0), .s (.p 7 0)]), (9, .box 148 [.int .i64 (IntKind.i64.wrap (x.shores.1.fl.lo + (k : Int))), .int .i64 f.2]), (10, .box 24 [.int .i64 x.shores.1.fl.lo, .int .i64 x.shores.1.fl.hi]), (11, .sl .own 148 2 ((can ++ rowsF x k) ++ row1F x (IntKind.i64.wrap (x.shores.1.fl.lo + (k : Int))) (n1F x)) encPr zPr)]), 12, []⟩) (by kernel_rfl) (goes_of (by kernel_rfl)) (fun _ => rfl) (fun _ => ⟨⟨by kernel_rfl, rfl, by kernel_rfl, by kernel_rfl, rfl, by kernel_rfl, by kernel_rfl, rfl, by kernel_rfl, by kernel_rfl, rfl, by kernel_rfl, by kernel_rfl, rfl, by kernel_rfl, by kernel_rfl, rfl, by kernel_rfl, by kernel_rfl, rfl, by kernel_rfl, by kernel_rfl, rfl, by kernel_rfl, by kernel_rfl, rfl, by kernel_rfl, by kernel_rfl, rfl, by kernel_rfl, by kernel_rfl, rfl, by kernel_rfl, by kernel_rfl, rfl, by kernel_rfl, by kernel_rfl, rfl, by kernel_rfl, by kernel_rfl, rfl, by kernel_rfl, by kernel_rfl, rfl, by kernel_rfl, by kernel_rfl, rfl, by kernel_rfl, by kernel_rfl, rfl, by kernel_rfl, by kernel_rfl, rfl, by kernel_rfl, by kernel_rfl, rfl, by kernel_rfl, by kernel_rfl, rfl, by kernel_rfl, by kernel_rfl, rfl, by kernel_rfl, trivial⟩, by kernel_rfl, by kernel_rfl, by kernel_rfl⟩) (fun n w1 h => ?call11) (fun _ => ?_)
  case call11 =>
   have h2 := wp_hp (s2 := ⟨0, [], (roL x [(2, .pf (DeepAt encI gm DL) (ftR gm DL)), (3, .pf UnknownAt (· = 4)), (4, .box 30 (lR x)), (5, .box 128 zM), (6, .box 147 [.ref 8]), (7, .box 128 (lanC (.ref 0) x [.ref 1, .v (.map (some gm)), .ref 11])), (8, .clo 94 [] [.s (.p 4 0), .s (.p 6 0), .s (.p 7 0)]), (9, .box 148 [.int .i64 (IntKind.i64.wrap (x.shores.1.fl.lo + (k : Int))), .int .i64 f.2]), (10, .box 24 [.int .i64 x.shores.1.fl.lo, .int .i64 x.shores.1.fl.hi]), (11, .sl .own 148 2 (can ++ rowsF x k) encPr zPr)]), 12, []⟩) h (by repeat (first | exact trivial | refine ⟨by kernel_rfl, ?_⟩)) (by kernel_rfl) (by kernel_rfl) (by show 9 ≤ 12; decide)
   exact (from1_calls x hv gm DL hS (IntKind.i64.wrap (x.shores.1.fl.lo + (k : Int))) f.2 (can ++ rowsF x k) (IntKind.i64.wrap (x.shores.1.fl.lo + (k : Int)), f.2) hcl2 _ n w1 (by show 9 ≤ 11; decide) h2).mono fun e w' ⟨he, n', hag, hm'⟩ => ⟨(), n', ⟨_, he⟩, hag, hm'.slots⟩
  refine WPO_nil ?_
  refine WRA tt_ok ?_
  refine ⟨(IntKind.i64.wrap ((k : Int) + 1), IntKind.i64.wrap (x.shores.1.fl.lo + (k : Int)), (can ++ rowsF x k) ++ row1F x (IntKind.i64.wrap (x.shores.1.fl.lo + (k : Int))) (n1F x)), ?_, ?_, Le_sel (ts := [23, 22, 1, 2, 3, 4, 5, 7]) (ids := [0, 1, 2, 3, 4, 5, 6, 7, 8, 9, 10, 11]) (nx := 12) (by kernel_rfl)⟩
  ·refine ⟨k + 1, by omega, by simp only; rw [wrapI (by omega) (by omega)]; rfl, ?_⟩
   simp only
   rw [rowsF_succ, hwr, List.append_assoc]
  simp only
  rw [wrapI (by omega) (by omega)]
  omega
 have hc3' := of_decide_eq_false hc3
 refine WP_exit ?_
 rw [hnN] at hc3'
 have hkn : k = n0F x := by omega
 refine WP_ret ?_
 have e : can ++ rowsF x (n0F x) = can ++ rowsF x k := by rw [hkn]
 rw [e]
 exact ⟨.t [], by kernel_rfl, fun n1 w' h => ⟨rfl, fun id => n1 (rnm [(9, 11)] id), fun id hid => by show n1 (rnm [(9, 11)] id) = n id; rw [rnm_id (m := 9) (by kernel_rfl) id hid]; exact h.ini id hid, HSat.back (cx := cx) (n := n) (m := 9) (b := true) (h.ren (s2 := ⟨0, [], (roL x [(2, .pf (DeepAt encI gm DL) (ftR gm DL)), (3, .pf UnknownAt (· = 4)), (4, .box 30 (lR x)), (5, .box 128 zM), (6, .box 147 [.ref 8]), (7, .box 128 (lanC (.ref 0) x [.ref 1, .v (.map (some gm)), .ref 9])), (8, .clo 94 [] [.s (.p 4 0), .s (.p 6 0), .s (.p 7 0)]), (9, .sl .own 148 2 (can ++ rowsF x k) encPr zPr)]), 10, []⟩) [(9, 11)] (by repeat (first | exact trivial | refine ⟨by kernel_rfl, ?_⟩)) (by kernel_rfl) (by kernel_rfl) (rnm_id (m := 9) (by kernel_rfl)) (by show 9 ≤ 10; decide)) (fun id hid => hh.ini id hid) hm⟩⟩
end Go.Proofs.YtpfglknbkpcfnaaDoor.X
namespace Go.Proofs.YtpfglknbkpcfnaaDoor.Eng
open Go Go.RowKit
section
variable {P : Program} {tt : TT} {cx : Cx} {s s' : AS} {Q : Exit → AS → Prop} {ops : Array Oper} {l : List Oper}
theorem HSat.apart {n : Vn} {w : World} (h : HSat cx n s w) {i j : Nat} {e1 e2 : HE} (hi : fnd s.hp i = some e1) (hj : fnd s.hp j = some e2) (hne : i ≠ j) (hm : e1.mut = true ∨ e2.mut = true) (g : Nat) (h1 : e1.foot (n i) g) : ¬ e2.foot (n j) g := by
 have hsym : ∀ (x y : Nat × HE), ((x.2.mut = true ∨ y.2.mut = true) → ∀ g, x.2.foot (n x.1) g → ¬ y.2.foot (n y.1) g) → ((y.2.mut = true ∨ x.2.mut = true) → ∀ g, y.2.foot (n y.1) g → ¬ x.2.foot (n x.1) g) :=
  fun x y h hm g h1 h2 => h hm.symm g h2 h1
 exact pw_mem hsym h.sep (fnd_mem hi) (fnd_mem hj) (fun e => hne (Prod.mk.inj e).1) hm g h1
theorem CALLDEEP (k : FuncId) (vs : List AV) (r : Nat → AV) (e : TypeId) (sz : Nat) {α : Type} (li : List α) (enc : α → List Value) (z : α) (encA : Int → List Value) (S : List ((Int × Int) × List Int)) (nx : Nat) (hnx : s.nx = nx)
  (h : (callA ops s l).map (fun x => (x.1, x.2.1, x.2.2.2.2)) = some (k, vs, [])) (hgo : goes P k)
  (hp : ∀ (g : Nat) (L : List DRow), (callPN ops s l ((s.add (.sl .own e sz li enc z)).add (.pf (DeepAt encA g L) (ftR g L))) (r g)).isSome = true) (hr : ∀ (g : Nat) (L : List DRow), okB ((s.add (.sl .own e sz li enc z)).add (.pf (DeepAt encA g L) (ftR g L))) (r g) = true) (henc : ∀ y, (enc y).length = sz)
  (i0 i1 : Nat) (hi0 : Nat.ble (i0 + 1) nx = true) (hi1 : Nat.ble (i1 + 1) nx = true) (R : Nat → Value → Value → Value → Value) (hR : ∀ g n, (r g).c n = R g (n i0) (n i1) (n nx))
  (hcall : ∀ n w, HSat cx n s w → Calls P k (vs.map (AV.c n)).toArray w fun e' w' => ∃ V g L, e' = .returned (R g (n i0) (n i1) V) ∧ Below w.heap.size w w' ∧ DeepAt encA g L w' ∧ L.map dkStrip = S ∧ (∀ q, ftR g L q → w.heap.size ≤ q) ∧ w'.ownsRow w.heap.size e sz V li.length (flat li enc) ∧ (∀ q, ftR g L q → ¬ vblk V = some q))
  (hK : ∀ (g : Nat) (L : List DRow), L.map dkStrip = S → (∀ q, ftR g L q → cx.ok q) → WPO P cx ops l.tail ((callPN ops s l ((s.add (.sl .own e sz li enc z)).add (.pf (DeepAt encA g L) (ftR g L))) (r g)).getD s) Q) : WPO P cx ops l s Q := by
 subst hnx
 refine CALLX (σ := { x : Nat × List DRow // x.2.map dkStrip = S ∧ ∀ q, ftR x.1 x.2 q → cx.ok q }) k vs (fun x => (s.add (.sl .own e sz li enc z)).add (.pf (DeepAt encA x.1.1 x.1.2) (ftR x.1.1 x.1.2))) (fun x => r x.1.1) h hgo (fun x => hp x.1.1 x.1.2) (fun x => hr x.1.1 x.1.2) (fun x => (More.add s _).trans (More.add _ _)) (fun x => ⟨rfl, rfl, rfl⟩)
  (fun n w hh => (hcall n w hh).mono fun e' w' ⟨V, g, L, h1, h2, h3, h4, h5, h6, h7⟩ => ?_) (fun x => hK x.1.1 x.1.2 x.2.1 x.2.2)
 have hlt := h6.lt
 have hone : V.oneCell' = true ∧ V.ownBlock = vblk V := by rcases h6.2 with ⟨rfl, _⟩ | ⟨q, cap, cur, rfl, _⟩ <;> exact ⟨rfl, rfl⟩
 rw [hone.2] at hlt
 have hlow : w'.ownsRow 0 e sz V li.length (flat li enc) := ⟨h6.1, h6.2.imp id fun ⟨q, cap, cur, p1, _, p3⟩ => ⟨q, cap, cur, p1, Nat.zero_le _, p3⟩⟩
 have a1 := hh.add (e := .sl .own e sz li enc z) (v := V) h2 hone.1 ⟨henc, fun q hq => hh.fr.news q (Nat.le_trans hh.fr.size (hlt q hq).1), hlow⟩ trivial (fun q hq => (hlt q hq).2) (fun q hq => .inl (hlt q hq).1)
 have a2 := a1.add (e := .pf (DeepAt encA g L) (ftR g L)) (v := .nilFunc) (Below.refl _ w') rfl ⟨h3, DeepAt.stab⟩ trivial (fun q hq => h3.lt q hq) (fun q hq => .inr fun x hx hm hxq => by
  have hm' : x.2.mut = true := hm.resolve_left (by simp [HE.mut])
  rcases List.mem_cons.1 hx with rfl | hx
  ·rw [show upd n s.nx V s.nx = V from upd_same _ _ _] at hxq
   exact h7 q hq hxq
  rw [upd_lt n s.nx V _ (hh.ids x hx)] at hxq
  have := hh.lt x hx q hxq
  have := h5 q hq
  omega)
 have q0 : upd (upd n s.nx V) (s.nx + 1) .nilFunc i0 = n i0 := (upd_lt _ _ _ _ (by have := Nat.le_of_ble_eq_true hi0; omega)).trans (upd_lt _ _ _ _ (by have := Nat.le_of_ble_eq_true hi0; omega))
 have q1 : upd (upd n s.nx V) (s.nx + 1) .nilFunc i1 = n i1 := (upd_lt _ _ _ _ (by have := Nat.le_of_ble_eq_true hi1; omega)).trans (upd_lt _ _ _ _ (by have := Nat.le_of_ble_eq_true hi1; omega))
 have q2 : upd (upd n s.nx V) (s.nx + 1) .nilFunc s.nx = V := (upd_lt _ _ _ _ (by omega)).trans (upd_same _ _ _)
 exact ⟨⟨(g, L), h4, fun q hq => hh.fr.news q (Nat.le_trans hh.fr.size (h5 q hq))⟩, upd (upd n s.nx V) (s.nx + 1) .nilFunc, fun id hid => (upd_lt _ _ _ id (by show id < s.nx + 1; omega)).trans (upd_lt _ _ _ id hid), h1.trans (by rw [hR, q0, q1, q2]), a2⟩
end
end Go.Proofs.YtpfglknbkpcfnaaDoor.Eng
namespace Go.Proofs.YtpfglknbkpcfnaaDoor.X
open Go Go.RowKit Go.Proofs.YtpfglknbkpcfnaaDoor.Eng Go.Proofs.YtpfglknbkpcfnaaDoor.Fw
theorem Le_own0 {cx : Cx} {s : AS} {id : Nat} {enc : Int → List Value} {e : TypeId} {g : Nat} (hf : fnd s.hp id = some (mapE g ([] : List DRow) dkKey dkVal)) : Le cx s { s with hp := rep s.hp id (ownD enc e g []) } := fun n a w hs => by
 have h := hs.heap.ents _ (fnd_mem hf)
 have hft : ∀ q, ftD g [] q → q = g := fun q hq => hq.elim (fun h => h) (fun ⟨x, hx, _⟩ => by cases hx)
 have hD : OwnD enc e g [] w := ⟨h.1, fun x hx => (by cases hx), List.Pairwise.nil, List.Pairwise.nil, fun x hx => (by cases hx)⟩
 have hh := hs.heap.weak (e := ownD enc e g []) hf (fun _ => rfl) (fun q hq => hft q hq) (Nat.le_refl _) ⟨hD, fun q hq => h.2.1 q (hft q hq), OwnD.stab⟩ trivial
 exact ⟨n, env_hp hs (more_rep (e := ownD enc e g []) hf (Nat.le_refl _)) hh⟩
theorem ftR_D {g : Nat} {L : List DRow} {q : Nat} (h : ftR g L q) : ftD g L q := h.imp id fun ⟨x, hx, hb, _⟩ => ⟨x, hx, hb⟩
theorem deepP_succ {l : List LSound} {k : Nat} (h : k < l.length) : deepP (l.take (k + 1)) = dkPut (deepP (l.take k)) (l.getD k zSound).hr (l.getD k zSound).sh (dkRow (deepP (l.take k)) (l.getD k zSound).hr (l.getD k zSound).sh ++ [(l.getD k zSound).dp]) := by
 unfold deepP
 rw [List.take_add_one, List.getElem?_eq_getElem h, List.foldl_append, List.getD_eq_getElem?_getD, List.getElem?_eq_getElem h]
 rfl
theorem dkRow_put (A : List ((Int × Int) × List Int)) (a b c d : Int) (li : List Int) : dkRow (dkPut A a b li) c d = if (a, b) = (c, d) then li else dkRow A c d := by
 unfold dkPut
 by_cases hA : A.any (fun x => x.1 == (a, b)) = true
 ·rw [if_pos hA]
  unfold dkRow
  by_cases he : (a, b) = (c, d)
  ·rw [if_pos he, ← he]
   clear he
   induction A with
   | nil => cases hA
   | cons x r ih =>
    rw [List.map_cons]
    by_cases hx : (x.1 == (a, b)) = true
    ·rw [if_pos hx, List.find?_cons_of_pos (by exact hx)]; rfl
    rw [if_neg hx, List.find?_cons_of_neg (by exact hx)]
    refine ih ?_
    rw [List.any_cons] at hA
    simpa [hx] using hA
  rw [if_neg he]
  clear hA
  induction A with
  | nil => rfl
  | cons x r ih =>
   rw [List.map_cons]
   by_cases hx : (x.1 == (a, b)) = true
   ·have hx2 : x.1 = (a, b) := eq_of_beq hx
    have hne : ¬ (x.1 == (c, d)) = true := by rw [hx2]; exact fun h => he (eq_of_beq h)
    rw [if_pos hx, List.find?_cons_of_neg (by exact hne), List.find?_cons_of_neg (by exact hne)]
    exact ih
   rw [if_neg hx]
   by_cases hy : (x.1 == (c, d)) = true
   ·rw [List.find?_cons_of_pos (by exact hy), List.find?_cons_of_pos (by exact hy)]
   rw [List.find?_cons_of_neg (by exact hy), List.find?_cons_of_neg (by exact hy)]
   exact ih
 rw [if_neg hA]
 unfold dkRow
 rw [List.find?_append]
 by_cases he : (a, b) = (c, d)
 ·rw [if_pos he, ← he]
  have hn : A.find? (fun x => x.1 == (a, b)) = none := List.find?_eq_none.2 fun x hx h => hA (List.any_eq_true.2 ⟨x, hx, h⟩)
  rw [hn]; simp
 rw [if_neg he]
 have : ([((a, b), li)] : List ((Int × Int) × List Int)).find? (fun x => x.1 == (c, d)) = none := by
  have : ((a, b) == (c, d)) = false := beq_eq_false_iff_ne.2 he
  simp only [List.find?_cons, this, List.find?_nil]
 rw [this, Option.or_none]
theorem deepP_len (l : List LSound) (k : Nat) (hk : k ≤ l.length) (a b : Int) : (dkRow (deepP (l.take k)) a b).length ≤ k := by
 induction k generalizing a b with
 | zero => simp [deepP, dkRow]
 | succ k ih =>
  rw [deepP_succ (by omega), dkRow_put]
  split
  ·rw [List.length_append]
   have := ih (by omega) (l.getD k zSound).hr (l.getD k zSound).sh
   rw [List.length_singleton]; omega
  have := ih (by omega) a b; omega
def canF (x : LBook) : List (Int × Int) := rowsF x (n0F x)
theorem opened_calls (g0 g1 : Value) (x : LBook) (w : World) (r0 : Reads w g0 2 x.tides encSpan zSpan) (r1 : Reads w g1 3 x.sounds encSound zSound) (hun : UnknownAt w) (hnw0 : NowhereAt w) (hv : ValidL x) :
  Calls Tryd.prog 79 #[.agg ((lanV g0 x [g1]).toArray), .slice none 0 0] w fun e w' => ∃ V gm DL, e = .returned (.agg ((lanV g0 x [g1, .map (some gm), V]).toArray)) ∧ Below w.heap.size w w' ∧ DeepAt encI gm DL w' ∧ DL.map dkStrip = deepS x ∧ (∀ q, ftR gm DL q → w.heap.size ≤ q) ∧ w'.ownsRow w.heap.size 148 2 V (canF x).length (flat (canF x) encPr) ∧ (∀ q, ftR gm DL q → ¬ vblk V = some q) := by
 refine CW tt_ok [g0, g1] 2 [.g (lR x), .s (.v (.slice none 0 0))] (roL x [(2, .pf NowhereAt (· = 3)), (3, .pf UnknownAt (· = 4))]) 4 Tryd.func79 rfl rfl rfl (by simp [r0.one, r1.one]) ⟨ro_in r0, ro_in r1, pf_in hnw0, pf_in hun, trivial⟩ ?_
 have hl0 := Reads.len r0
 have hl1 := Reads.len r1
 refine WSA tt_ok ?_
 refine WSR tt_ok 1 ?_
 refine MKMg (κ := DRow) dkKey dkVal (some 11) (by kernel_rfl) (fun gM1 => (by kernel_rfl)) (fun gM1 => ?_)
 refine WPO_le (Le_own0 (id := 6) (enc := encI) (e := 3) (g := gM1) (by kernel_rfl)) ?_
 refine WPA tt_ok ?_
 refine WP_seq (WSA tt_ok ?_)
 refine WP_block (WP_loop (σ := Int × List DRow) (fun zz => ⟨51, [(16, [], .s (.int .i64 zz.1)), (15, [], .s (.int .i64 (x.sounds.length : Int))), (14, [], .s (.ref 1)), (5, [], .s (.p 7 0)), (4, [], .s (.p 5 0)), (2, [], .s (.p 4 0)), (1, [], .s (.v (.slice none 0 0)))], ((7, .box 128 (lanC (.ref 0) x [.ref 1, .v (.map (some gM1)), .v (.slice none 0 0)])) :: (6, ownD encI 3 gM1 zz.2) :: (5, .box 128 zM) :: (4, .box 30 (lR x)) :: (roL x [(2, .pf NowhereAt (· = 3)), (3, .pf UnknownAt (· = 4))])), 8, []⟩) (fun zz => ∃ k : Nat, k ≤ x.sounds.length ∧ zz.1 = k ∧ zz.2.map dkStrip = deepP (x.sounds.take k)) (fun zz => x.sounds.length - zz.1.toNat) (0, ([] : List DRow)) (⟨0, Nat.zero_le _, rfl, rfl⟩) (Le_sel (ts := [16, 15, 14, 5, 4, 2, 1]) (ids := [7, 6, 5, 4, 0, 1, 2, 3]) (nx := 8) (by kernel_rfl)) ?_)
 rintro ⟨ii, L⟩ hinv
 obtain ⟨k, hk0, hii, hL⟩ := hinv
 simp only at hii hL
 subst hii
 refine WSA tt_ok ?_
 refine WP_seq (WP_cond (decide ((k : Int) < (x.sounds.length : Int))) (by kernel_rfl) (fun hc2 => ?_) (fun hc2 => ?_))
 ·have hc2' := of_decide_eq_true hc2
  have hk : k < x.sounds.length := by omega
  have hsk := hv.sounds _ (getD_mem (z := zSound) hk)
  have hcy : ((!((x.sounds.getD k zSound).hr == (-1) && (x.sounds.getD k zSound).sh == (-1))) && (!(decide ((k : Int) ∈ ([] : List Int))))) = true := by have h1 : ((x.sounds.getD k zSound).hr == (-1)) = false := beq_eq_false_iff_ne.2 (by omega); rw [h1]; simp
  have hrl := deepP_len x.sounds k hk0 (x.sounds.getD k zSound).hr (x.sounds.getD k zSound).sh
  rw [← hL] at hrl
  have hns := hv.ns
  refine WP_skip ?_
  refine WP_seq (WP_block ?_)
  refine WSR tt_ok 1 ?_
  refine IX tt_ok (k : Int) x.sounds.length [] (by kernel_rfl) (fun hG => ⟨by omega, by omega⟩) ?_
  refine WPA tt_ok ?_
  refine WSA tt_ok ?_
  refine WSR tt_ok 1 ?_
  refine LDGo tt_ok 136 3 0 (some 27) [.int .i64 (-1), .int .i64 (-1)] 136 (.g [.int .i64 (-1), .int .i64 (-1)]) (by kernel_rfl) (by kernel_rfl) (by kernel_rfl) (fun nV w h => (h.fu 2 3 NowhereAt)) (by kernel_rfl) ?_
  refine BIN .neq 136 (.tmp 26) (.tmp 27) (.g [.int .i64 (x.sounds.getD k zSound).hr, .int .i64 (x.sounds.getD k zSound).sh]) (.g [.int .i64 (-1), .int .i64 (-1)]) (.s (.bool (!((x.sounds.getD k zSound).hr == (-1) && (x.sounds.getD k zSound).sh == (-1))))) [] (by kernel_rfl) (by kernel_rfl) (by kernel_rfl) (fun _ => BinOk_pairN (by kernel_rfl) _ _ _ _) ?_
  refine WPO_run tt_ok 3 (by kernel_rfl) ?_
  refine CAL 93 [.s (.v (.slice none 0 0)), .s (.int .i64 (k : Int))] (.s (.bool (decide ((k : Int) ∈ ([] : List Int))))) [(!((x.sounds.getD k zSound).hr == (-1) && (x.sounds.getD k zSound).sh == (-1)), true)] (fun _ n w h => containsI_calls (.slice none 0 0) [] _ w reads_nil) ?_
  refine WPA tt_ok ?_
  refine WP_cond ((!((x.sounds.getD k zSound).hr == (-1) && (x.sounds.getD k zSound).sh == (-1))) && (!(decide ((k : Int) ∈ ([] : List Int))))) (by kernel_rfl) (fun hc3 => ?_) (fun h => by rw [hcy] at h; cases h)
  refine WP_region (WPO_run tt_ok 5 (by kernel_rfl) ?_)
  refine LIT tt_ok (by kernel_rfl) ?_
  refine LITSL 10 3 1 1 [.int .i64 (x.sounds.getD k zSound).dp] [(x.sounds.getD k zSound).dp] encI 0 (by kernel_rfl) rfl (fun _ => rfl) (fun n => rfl) ?_
  refine MENO (enc := encI) tt_ok 6 L (x.sounds.getD k zSound).hr (x.sounds.getD k zSound).sh gM1 136 51 3 (some 42) (by kernel_rfl) (by kernel_rfl) (by kernel_rfl) (by kernel_rfl) (fun _ => rfl) (dkRow (L.map dkStrip) (x.sounds.getD k zSound).hr (x.sounds.getD k zSound).sh) rfl (by kernel_rfl) ?_
  refine WPO_run tt_ok 1 (by kernel_rfl) ?_
  refine APP tt_ok (.s (.ref 12)) (.s (.ref 10)) 51 3 (some 43) 1 (dkRow (L.map dkStrip) (x.sounds.getD k zSound).hr (x.sounds.getD k zSound).sh) ([(x.sounds.getD k zSound).dp]) encI 0 (by kernel_rfl) (by kernel_rfl) (by kernel_rfl) (by kernel_rfl) (.inr (.inl ⟨12, rfl, (by kernel_rfl)⟩)) (.inr ⟨10, .own, rfl, (by kernel_rfl), (by simp only [List.length_cons, List.length_nil]; omega)⟩) (by simp) (fun y => rfl) (fun y => List.all_eq_true.1 rfl) (fun i hi => (by have hby : (tyL tt 3).map (·.bytes) = some 8 := (by kernel_rfl); rw [hi] at hby; simp only [Option.map_some, Option.some.injEq] at hby; rw [hby]; simp only [List.length_append, List.length_cons, List.length_nil]; omega)) ?_
  refine WPO_run tt_ok 1 (by kernel_rfl) ?_
  refine ENSO (enc := encI) tt_ok 11 13 (dkAdd L (x.sounds.getD k zSound).hr (x.sounds.getD k zSound).sh) (x.sounds.getD k zSound).hr (x.sounds.getD k zSound).sh gM1 (dkIdx L (x.sounds.getD k zSound).hr (x.sounds.getD k zSound).sh) 3 ((dkRow (L.map dkStrip) (x.sounds.getD k zSound).hr (x.sounds.getD k zSound).sh) ++ ([(x.sounds.getD k zSound).dp])) (by kernel_rfl) (by kernel_rfl) (by kernel_rfl) (by kernel_rfl) (dkIdx_spec L (x.sounds.getD k zSound).hr (x.sounds.getD k zSound).sh) (fun DL2 hDL2 => ?_)
  refine WPO_nil ?_
  refine WRA tt_ok ?_
  refine ⟨(IntKind.i64.wrap ((k : Int) + 1), DL2), ?_, ?_, Le_ren [(6, 14)] (by repeat (first | exact trivial | refine ⟨by kernel_rfl, ?_⟩)) ⟨by kernel_rfl, rfl, by kernel_rfl, by kernel_rfl, rfl, by kernel_rfl, by kernel_rfl, rfl, by kernel_rfl, by kernel_rfl, rfl, by kernel_rfl, by kernel_rfl, rfl, by kernel_rfl, by kernel_rfl, rfl, by kernel_rfl, by kernel_rfl, rfl, by kernel_rfl, trivial⟩ (by kernel_rfl) (by kernel_rfl) (rnm_id (m := 2) (by kernel_rfl)) (by show 2 ≤ 8; decide) (by kernel_rfl) (by kernel_rfl)⟩
  ·refine ⟨k + 1, by omega, by simp only; rw [wrapI (by omega) (by omega)]; rfl, ?_⟩
   simp only
   rw [hDL2, dkAdd_put, deepP_succ hk, hL]
  simp only
  rw [wrapI (by omega) (by omega)]
  omega
 have hc2' := of_decide_eq_false hc2
 refine WP_exit ?_
 have hkn : k = x.sounds.length := by omega
 have hLf : L.map dkStrip = deepS x := by rw [hL, hkn, List.take_length]
 refine WSA tt_ok ?_
 refine WSA tt_ok ?_
 refine WP_fact (p := ∀ q, ftR gM1 L q → w.heap.size ≤ q) (fun nV aV wV hs q hq => (hs.heap.ents (6, ownD encI 3 gM1 L) (fnd_mem (by kernel_rfl))).2.1 q (ftR_D hq)) (fun hnw => ?_)
 refine WP_le (Le_deep (id := 6) (enc := encI) (e := 3) (g := gM1) (L := L) (by kernel_rfl) (fun _ => rfl)) ?_
 refine WP_le (s' := ⟨51, [(4, [], .s (.p 5 0)), (5, [], .s (.p 7 0)), (9, [], .s (.p 6 0))], (roL x [(2, .pf (DeepAt encI gM1 L) (ftR gM1 L)), (3, .pf UnknownAt (· = 4)), (4, .box 30 (lR x)), (5, .box 128 zM), (6, .box 147 [.ref 8]), (7, .box 128 (lanC (.ref 0) x [.ref 1, .v (.map (some gM1)), .ref 9])), (8, .clo 94 [] [.s (.p 4 0), .s (.p 6 0), .s (.p 7 0)]), (9, .sl .own 148 2 ([] : List (Int × Int)) encPr zPr)]), 10, []⟩) (Le.trans (Le_nil (id := 7) (j := 15) (ty := 128) (e := 148) (cs := (lanC (.ref 0) x [.ref 1, .v (.map (some gM1)), .v (.slice none 0 0)])) (by kernel_rfl) (by kernel_rfl) (sz := 2) encPr zPr (fun _ => rfl) (by kernel_rfl)) (Le_ren [(2, 6), (6, 8), (8, 9), (9, 10)] (by repeat (first | exact trivial | refine ⟨by kernel_rfl, ?_⟩)) ⟨by kernel_rfl, rfl, by kernel_rfl, by kernel_rfl, rfl, by kernel_rfl, by kernel_rfl, rfl, by kernel_rfl, trivial⟩ (by kernel_rfl) (by kernel_rfl) (rnm_id (m := 2) (by kernel_rfl)) (by show 2 ≤ 10; decide) (by kernel_rfl) (by kernel_rfl))) ?_
 refine WSR tt_ok 1 ?_
 refine LDGo tt_ok 148 4 0 (some 48) [.int .i64 (-41), .int .i64 (-41)] 148 (.g [.int .i64 (-41), .int .i64 (-41)]) (by kernel_rfl) (by kernel_rfl) (by kernel_rfl) (fun nV w h => (h.fu 3 4 UnknownAt)) (by kernel_rfl) ?_
 refine CALLF (σ := Unit) 94 [.g [.int .i64 (-41), .int .i64 (-41)], .s (.int .i64 0), .s (.p 4 0), .s (.p 6 0), .s (.p 7 0)] 9 49 (fun _ => ⟨51, [(48, [], .g [.int .i64 (-41), .int .i64 (-41)]), (47, [], .s (.ref 8)), (4, [], .s (.p 5 0)), (5, [], .s (.p 7 0)), (9, [], .s (.p 6 0))], (roL x [(2, .pf (DeepAt encI gM1 L) (ftR gM1 L)), (3, .pf UnknownAt (· = 4)), (4, .box 30 (lR x)), (5, .box 128 zM), (6, .box 147 [.ref 8]), (7, .box 128 (lanC (.ref 0) x [.ref 1, .v (.map (some gM1)), .ref 9])), (8, .clo 94 [] [.s (.p 4 0), .s (.p 6 0), .s (.p 7 0)]), (9, .sl .own 148 2 (([] : List (Int × Int)) ++ canF x) encPr zPr)]), 10, []⟩) (by kernel_rfl) (goes_of (by kernel_rfl)) (fun _ => rfl) (fun _ => ⟨⟨by kernel_rfl, rfl, by kernel_rfl, by kernel_rfl, rfl, by kernel_rfl, by kernel_rfl, rfl, by kernel_rfl, by kernel_rfl, rfl, by kernel_rfl, by kernel_rfl, rfl, by kernel_rfl, trivial⟩, by kernel_rfl, by kernel_rfl, by kernel_rfl⟩) (fun n w1 h => ?call9) (fun _ => ?_)
 case call9 =>
  have h2 := wp_hp (s2 := ⟨0, [], (roL x [(2, .pf (DeepAt encI gM1 L) (ftR gM1 L)), (3, .pf UnknownAt (· = 4)), (4, .box 30 (lR x)), (5, .box 128 zM), (6, .box 147 [.ref 8]), (7, .box 128 (lanC (.ref 0) x [.ref 1, .v (.map (some gM1)), .ref 9])), (8, .clo 94 [] [.s (.p 4 0), .s (.p 6 0), .s (.p 7 0)]), (9, .sl .own 148 2 ([] : List (Int × Int)) encPr zPr)]), 10, []⟩) h (by repeat (first | exact trivial | refine ⟨by kernel_rfl, ?_⟩)) (by kernel_rfl) (by kernel_rfl) (by show 2 ≤ 10; decide)
  exact (from0_calls x hv gM1 L hLf  ([] : List (Int × Int)) ((-41), (-41)) (by simp) _ n w1 (by show 2 ≤ 9; decide) h2).mono fun e w' ⟨he, n', hag, hm'⟩ => ⟨(), n', ⟨_, he⟩, hag, hm'.slots⟩
 refine WPO_nil ?_
 refine WSA tt_ok ?_
 refine WP_ret ?_
 refine ⟨.g (lanC (.ref 0) x [.ref 1, .v (.map (some gM1)), .ref 9]), by kernel_rfl, fun nV w' h => ⟨nV 9, gM1, L, ?_, h.bel, (h.ents (2, .pf (DeepAt encI gM1 L) (ftR gM1 L)) (fnd_mem (by kernel_rfl))).1, hLf, hnw, own_of (z := zPr) (id := 9) h (by kernel_rfl), fun q hq hV => HSat.apart h (i := 9) (j := 2) (e1 := .sl .own 148 2 (([] : List (Int × Int)) ++ canF x) encPr zPr) (e2 := .pf (DeepAt encI gM1 L) (ftR gM1 L)) (by kernel_rfl) (by kernel_rfl) (by decide) (.inl rfl) q hV hq⟩⟩
 have e0 : nV 0 = g0 := h.ini 0 (by show 0 < 2; decide)
 have e1 : nV 1 = g1 := h.ini 1 (by show 1 < 2; decide)
 rw [← e0, ← e1]; rfl
theorem range_all {α : Type} (l : List α) (z : α) (p : α → Bool) : ((List.range l.length).all fun k => p (l.getD k z)) = l.all p := by
 rw [Bool.eq_iff_iff]
 simp only [List.all_eq_true, List.mem_range]
 constructor
 ·intro h x hx
  obtain ⟨k, hk, rfl⟩ := List.mem_iff_getElem.1 hx
  have := h k hk
  rwa [List.getD_eq_getElem?_getD, List.getElem?_eq_getElem hk] at this
 intro h k hk
 exact h _ (getD_mem hk)
def okTideL (s : Span) : Bool := isSpanL s (-40) 80
def okShoreL (x : LShore) : Bool := (isSpanL x.fl (-40) 80 && withinL x.lo (-40) x.hi) && decide (x.hi ≤ 80)
def okSoundL (b : LBook) (x : LSound) : Bool := (isHourL b x.hr && isShoreL x.sh) && withinL x.dp 0 120
theorem checkL_eq (b : LBook) : checkL b = bif !((((((((withinL (b.tides.length : Int) 1 24) && (isSpanL b.empty 0 40)) && (withinL b.sink 1 20)) && (withinL b.under 0 10)) && (decide ((b.sounds.length : Int) ≤ 6))) && b.tides.all okTideL) && (okShoreL b.shores.1 && okShoreL b.shores.2)) && b.sounds.all (okSoundL b)) then 20 else 0 := by
 unfold checkL
 rw [loopR_and (fun k => okTideL (b.tides.getD k zSpan)) (fun k v hk => by simp only [checkL_c1]; rw [decide_eq_true]; omega) (fun k v hk => by simp only [checkL_b1, okTideL]), range_all]
 simp only
 rw [loopR_and (fun k => okShoreL (pix b.shores (k : Int))) (fun k v hk => by simp only [checkL_c2]; rw [decide_eq_true]; omega) (fun k v hk => by simp only [checkL_b2, okShoreL, Bool.and_assoc])]
 simp only
 rw [loopR_and (fun k => okSoundL b (b.sounds.getD k zSound)) (fun k v hk => by simp only [checkL_c3]; rw [decide_eq_true]; omega) (fun k v hk => by simp only [checkL_b3, okSoundL, Bool.and_assoc]), range_all]
 simp only
 have h2 : ((List.range 2).all fun k => okShoreL (pix b.shores (k : Int))) = (okShoreL b.shores.1 && okShoreL b.shores.2) := by
  show (okShoreL (pix b.shores 0) && (okShoreL (pix b.shores 1) && true)) = _
  rw [Bool.and_true]; rfl
 rw [h2]
theorem isSpanL_iff {s : Span} {low high : Int} (h0 : -100 ≤ low) (h1 : high ≤ 1000) : isSpanL s low high = true ↔ low ≤ s.lo ∧ s.lo ≤ s.hi ∧ s.hi ≤ high ∧ s.hi - s.lo ≤ 4 := by
 simp only [isSpanL, Bool.and_eq_true, decide_eq_true_eq, and_assoc]
 constructor
 ·rintro ⟨a, b, c, d⟩
  rw [wrapI (by omega) (by omega)] at d
  exact ⟨a, b, c, d⟩
 rintro ⟨a, b, c, d⟩
 rw [wrapI (by omega) (by omega)]
 exact ⟨a, b, c, d⟩
theorem checkL_valid {b : LBook} : checkL b = 0 ↔ ValidL b := by
 rw [checkL_eq]
 have hh : ∀ {c : Bool}, ((bif !c then (20 : Int) else 0) = 0) ↔ c = true := fun {c} => by cases c <;> simp
 rw [hh]
 simp only [Bool.and_eq_true, isSpanL_iff (show (-100 : Int) ≤ 0 by decide) (show (40 : Int) ≤ 1000 by decide), List.all_eq_true, okTideL, okShoreL, okSoundL, isSpanL_iff (show (-100 : Int) ≤ -40 by decide) (show (80 : Int) ≤ 1000 by decide), withinL, isHourL, isShoreL, decide_eq_true_eq]
 constructor
 ·rintro ⟨⟨⟨⟨⟨⟨⟨h1, h2⟩, h3⟩, h4⟩, h5⟩, h6⟩, ⟨⟨h7, h8⟩, h9⟩, ⟨h10, h11⟩, h12⟩, h13⟩
  refine ⟨by omega, h6, h7, h10, ⟨h8.1, h8.2, h9⟩, ⟨h11.1, h11.2, h12⟩, h2, h3, h4, by omega, fun x hx => ?_⟩
  obtain ⟨⟨a, c⟩, d⟩ := h13 x hx
  rw [wrapI (by omega) (by omega)] at a
  exact ⟨⟨a.1, by omega⟩, c, d⟩
 intro h
 have hn := h.nt
 refine ⟨⟨⟨⟨⟨⟨⟨by omega, h.empty⟩, h.sink⟩, h.under⟩, by have := h.ns; omega⟩, h.tides⟩, ⟨⟨h.fl1, h.sh1.1, h.sh1.2.1⟩, h.sh1.2.2⟩, ⟨h.fl2, h.sh2.1, h.sh2.2.1⟩, h.sh2.2.2⟩, fun x hx => ?_⟩
 obtain ⟨a, c, d⟩ := h.sounds x hx
 rw [wrapI (by omega) (by omega)]
 exact ⟨⟨⟨a.1, by omega⟩, c⟩, d⟩
def rightL (x : LBook) : Bool × Int :=
 (bif (checkL x) != 0 then (false, (checkL x)) else (decide (((canF x).length : Int) > 0), 0))
theorem rightL_calls (g0 g1 : Value) (x : LBook) (w : World) (r0 : Reads w g0 2 x.tides encSpan zSpan) (r1 : Reads w g1 3 x.sounds encSound zSound) (hun : UnknownAt w) (hnw0 : NowhereAt w) : Calls Tryd.prog 52 #[.agg ((lanV g0 x [g1]).toArray)] w fun e w' => e = .returned (.tuple #[.bool (rightL x).1, iv (rightL x).2]) ∧ Below w.heap.size w w' := by
 refine CW tt_ok [g0, g1] 2 [.g (lR x)] (roL x [(2, .pf UnknownAt (· = 4)), (3, .pf NowhereAt (· = 3))]) 4 Tryd.func52 rfl rfl rfl (by simp [r0.one, r1.one]) ⟨ro_in r0, ro_in r1, pf_in hun, pf_in hnw0, trivial⟩ ?_
 have hl0 := Reads.len r0
 have hl1 := Reads.len r1
 refine WSA tt_ok ?_
 refine WP_seq (WP_seq (WP_region (WPO_run tt_ok 1 (by kernel_rfl) ?_)))
 refine CAL 43 [.g (lR x)] (.s (.int .i64 (checkL x))) [] (fun hG nV w h => checkL_calls (nV 0) (nV 1) x w (h.rd 0 24) (h.rd 1 112) ) ?_
 refine WPA tt_ok ?_
 refine WSA tt_ok ?_
 refine WP_cond ((checkL x) != 0) (by kernel_rfl) (fun hc2 => ?_) (fun hc2 => ?_)
 ·have hc2' := hc2; try simp only [bfs, ne_eq] at hc2'
  refine WSA tt_ok ?_
  refine WP_ret ?_
  exact ⟨.t [(false, [.bool false]), (false, [.int .i64 (checkL x)])], by kernel_rfl, fun nV w' h => ⟨by rw [show rightL x = (false, (checkL x)) from by unfold rightL; simp only [hc2, cond_true, cond_false]]; rfl, h.bel⟩⟩
 have hc2' := hc2; try simp only [bfs, ne_eq] at hc2'
 refine WP_skip ?_
 have hv : ValidL x := checkL_valid.1 (by assumption)
 refine WSR tt_ok 1 ?_
 refine CALLDEEP 79 [.g (lR x), .s (.v (.slice none 0 0))] (fun gm1 => .g (lanC (.ref 0) x [.ref 1, .v (.map (some gm1)), .ref 5])) 148 2 (canF x) encPr zPr encI (deepS x) 5 (by kernel_rfl) (by kernel_rfl) (goes_of (by kernel_rfl)) (fun _ _ => (by kernel_rfl)) (fun _ _ => (by kernel_rfl)) (fun _ => rfl) 0 1 (by kernel_rfl) (by kernel_rfl) (fun gm1 va vb vc => Value.agg #[va, .int .i64 x.shores.1.fl.lo, .int .i64 x.shores.1.fl.hi, .int .i64 x.shores.1.lo, .int .i64 x.shores.1.hi, .int .i64 x.shores.2.fl.lo, .int .i64 x.shores.2.fl.hi, .int .i64 x.shores.2.lo, .int .i64 x.shores.2.hi, .int .i64 x.empty.lo, .int .i64 x.empty.hi, .int .i64 x.sink, .int .i64 x.under, vb, .map (some gm1), vc]) (fun gm1 n => (by kernel_rfl)) (fun nV w h => opened_calls (nV 0) (nV 1) x w (h.rd 0 24) (h.rd 1 112) (h.ft 2 4) (h.ft 3 3) (by assumption)) (fun gm1 DLm1 hSDLm1 hokDLm1 => ?_)
 refine WPA tt_ok ?_
 refine WP_ret ?_
 exact ⟨.t [(false, [.bool (decide (((canF x).length : Int) > 0))]), (false, [.int .i64 0])], by kernel_rfl, fun nV w' h => ⟨by rw [show rightL x = (decide (((canF x).length : Int) > 0), 0) from by unfold rightL; simp only [hc2, cond_true, cond_false]]; rfl, h.bel⟩⟩
def askNL (x : LBook) : Int := if checkL x = 0 then 21 else checkL x
def askTL (x : LBook) : Int := if (canF x).length = 0 then 22 else 0
theorem askNL_ne (x : LBook) : (askNL x != 0) = true := by
 unfold askNL
 split
 ·rfl
 rename_i h; simpa using h
theorem askedL_bad (g0 g1 : Value) (x : LBook) (isv : Bool) (w : World) (r0 : Reads w g0 2 x.tides encSpan zSpan) (r1 : Reads w g1 3 x.sounds encSound zSound) (hun : UnknownAt w) (hnw0 : NowhereAt w) (hq1 : checkL x ≠ 0) : Calls Tryd.prog 82 #[.agg ((lanV g0 x [g1]).toArray), .bool isv] w fun e w' => e = .returned (.tuple #[.agg #[.slice none 0 0, iv 0, iv 0, iv 0, iv 0, iv 0, iv 0, iv 0, iv 0, iv 0, iv 0, iv 0, iv 0, .slice none 0 0, .map none, .slice none 0 0], iv (askNL x)]) ∧ Below w.heap.size w w' := by
 refine CW tt_ok [g0, g1] 2 [.g (lR x), .s (.bool isv)] (roL x [(2, .pf UnknownAt (· = 4)), (3, .pf NowhereAt (· = 3))]) 4 Tryd.func82 rfl rfl rfl (by simp [r0.one, r1.one]) ⟨ro_in r0, ro_in r1, pf_in hun, pf_in hnw0, trivial⟩ ?_
 have hl0 := Reads.len r0
 have hl1 := Reads.len r1
 refine WSA tt_ok ?_
 refine WP_seq (WP_seq (WP_region (WPO_run tt_ok 1 (by kernel_rfl) ?_)))
 refine CAL 43 [.g (lR x)] (.s (.int .i64 (checkL x))) [] (fun hG nV w h => checkL_calls (nV 0) (nV 1) x w (h.rd 0 24) (h.rd 1 112) ) ?_
 refine WPA tt_ok ?_
 refine WSA tt_ok ?_
 refine WP_cond ((checkL x) != 0) (by kernel_rfl) (fun hc1 => ?_) (fun h => by rw [(show ((checkL x) != 0) = true from by simpa using hq1)] at h; cases h)
 refine WSA tt_ok ?_
 refine WP_ret ?_
 refine ⟨.t [(true, zM), (false, [.int .i64 (checkL x)])], by kernel_rfl, fun nV w' h => ⟨?_, h.bel⟩⟩
 unfold askNL; rw [if_neg hq1]; rfl
theorem askedL_ask (g0 g1 : Value) (x : LBook) (isv : Bool) (w : World) (r0 : Reads w g0 2 x.tides encSpan zSpan) (r1 : Reads w g1 3 x.sounds encSound zSound) (hun : UnknownAt w) (hnw0 : NowhereAt w) (hq1 : checkL x = 0) (hq2 : isv = false) : Calls Tryd.prog 82 #[.agg ((lanV g0 x [g1]).toArray), .bool isv] w fun e w' => e = .returned (.tuple #[.agg #[.slice none 0 0, iv 0, iv 0, iv 0, iv 0, iv 0, iv 0, iv 0, iv 0, iv 0, iv 0, iv 0, iv 0, .slice none 0 0, .map none, .slice none 0 0], iv (askNL x)]) ∧ Below w.heap.size w w' := by
 refine CW tt_ok [g0, g1] 2 [.g (lR x), .s (.bool isv)] (roL x [(2, .pf UnknownAt (· = 4)), (3, .pf NowhereAt (· = 3))]) 4 Tryd.func82 rfl rfl rfl (by simp [r0.one, r1.one]) ⟨ro_in r0, ro_in r1, pf_in hun, pf_in hnw0, trivial⟩ ?_
 have hl0 := Reads.len r0
 have hl1 := Reads.len r1
 refine WSA tt_ok ?_
 refine WP_seq (WP_seq (WP_region (WPO_run tt_ok 1 (by kernel_rfl) ?_)))
 refine CAL 43 [.g (lR x)] (.s (.int .i64 (checkL x))) [] (fun hG nV w h => checkL_calls (nV 0) (nV 1) x w (h.rd 0 24) (h.rd 1 112) ) ?_
 refine WPA tt_ok ?_
 refine WSA tt_ok ?_
 refine WP_cond ((checkL x) != 0) (by kernel_rfl) (fun h => by rw [(show ((checkL x) != 0) = false from by rw [hq1]; rfl)] at h; cases h) (fun hc1 => ?_)
 refine WP_skip ?_
 refine WP_seq (WSA tt_ok ?_)
 refine WP_cond (!isv) (by kernel_rfl) (fun hc2 => ?_) (fun h => by rw [(show (!isv) = true from by rw [hq2]; rfl)] at h; cases h)
 refine WSA tt_ok ?_
 refine WP_ret ?_
 refine ⟨.t [(true, zM), (false, [.int .i64 21])], by kernel_rfl, fun nV w' h => ⟨?_, h.bel⟩⟩
 unfold askNL; rw [if_pos hq1]; rfl
set_option maxHeartbeats 2000000 in
theorem askedL_yes (g0 g1 : Value) (x : LBook) (isv : Bool) (w : World) (r0 : Reads w g0 2 x.tides encSpan zSpan) (r1 : Reads w g1 3 x.sounds encSound zSound) (hun : UnknownAt w) (hnw0 : NowhereAt w) (hq1 : checkL x = 0) (hq2 : isv = true) : Calls Tryd.prog 82 #[.agg ((lanV g0 x [g1]).toArray), .bool isv] w fun e w' => ∃ V gm DL, e = .returned (.tuple #[.agg ((lanV g0 x [g1, .map (some gm), V]).toArray), iv (askTL x)]) ∧ Below w.heap.size w w' ∧ DeepAt encI gm DL w' ∧ DL.map dkStrip = deepS x ∧ (∀ q, ftR gm DL q → w.heap.size ≤ q) ∧ w'.ownsRow w.heap.size 148 2 V (canF x).length (flat (canF x) encPr) ∧ (∀ q, ftR gm DL q → ¬ vblk V = some q) := by
 refine CW tt_ok [g0, g1] 2 [.g (lR x), .s (.bool isv)] (roL x [(2, .pf UnknownAt (· = 4)), (3, .pf NowhereAt (· = 3))]) 4 Tryd.func82 rfl rfl rfl (by simp [r0.one, r1.one]) ⟨ro_in r0, ro_in r1, pf_in hun, pf_in hnw0, trivial⟩ ?_
 have hl0 := Reads.len r0
 have hl1 := Reads.len r1
 have hv : ValidL x := checkL_valid.1 hq1
 refine WSA tt_ok ?_
 refine WP_seq (WP_seq (WP_region (WPO_run tt_ok 1 (by kernel_rfl) ?_)))
 refine CAL 43 [.g (lR x)] (.s (.int .i64 (checkL x))) [] (fun hG nV w h => checkL_calls (nV 0) (nV 1) x w (h.rd 0 24) (h.rd 1 112) ) ?_
 refine WPA tt_ok ?_
 refine WSA tt_ok ?_
 refine WP_cond ((checkL x) != 0) (by kernel_rfl) (fun h => by rw [(show ((checkL x) != 0) = false from by rw [hq1]; rfl)] at h; cases h) (fun hc1 => ?_)
 refine WP_skip ?_
 refine WP_seq (WSA tt_ok ?_)
 refine WP_cond (!isv) (by kernel_rfl) (fun h => by rw [(show (!isv) = false from by rw [hq2]; rfl)] at h; cases h) (fun hc2 => ?_)
 refine WP_skip ?_
 refine WSR tt_ok 1 ?_
 refine CALLDEEP 79 [.g (lR x), .s (.v (.slice none 0 0))] (fun gm1 => .g (lanC (.ref 0) x [.ref 1, .v (.map (some gm1)), .ref 6])) 148 2 (canF x) encPr zPr encI (deepS x) 6 (by kernel_rfl) (by kernel_rfl) (goes_of (by kernel_rfl)) (fun _ _ => (by kernel_rfl)) (fun _ _ => (by kernel_rfl)) (fun _ => rfl) 0 1 (by kernel_rfl) (by kernel_rfl) (fun gm1 va vb vc => Value.agg #[va, .int .i64 x.shores.1.fl.lo, .int .i64 x.shores.1.fl.hi, .int .i64 x.shores.1.lo, .int .i64 x.shores.1.hi, .int .i64 x.shores.2.fl.lo, .int .i64 x.shores.2.fl.hi, .int .i64 x.shores.2.lo, .int .i64 x.shores.2.hi, .int .i64 x.empty.lo, .int .i64 x.empty.hi, .int .i64 x.sink, .int .i64 x.under, vb, .map (some gm1), vc]) (fun gm1 n => (by kernel_rfl)) (fun nV w h => opened_calls (nV 0) (nV 1) x w (h.rd 0 24) (h.rd 1 112) (h.ft 2 4) (h.ft 3 3) (by assumption)) (fun gm1 DLm1 hSDLm1 hokDLm1 => ?_)
 refine WPA tt_ok ?_
 refine WP_seq (WSA tt_ok ?_)
 refine WP_cond (((canF x).length : Int) == 0) (by kernel_rfl) (fun hc4 => ?_) (fun hc4 => ?_)
 ·have hc4' := hc4; try simp only [bfs, ne_eq] at hc4'
  refine WSA tt_ok ?_
  refine WP_ret ?_
  refine ⟨.t [(true, (lanC (.ref 0) x [.ref 1, .v (.map (some gm1)), .ref 6])), (false, [.int .i64 22])], by kernel_rfl, fun nV w' h => ⟨nV 6, gm1, DLm1, ?_, h.bel, (h.ents (7, .pf (DeepAt encI gm1 DLm1) (ftR gm1 DLm1)) (fnd_mem (by kernel_rfl))).1, hSDLm1, hokDLm1, own_of (z := zPr) (id := 6) h (by kernel_rfl), fun q hq hV => HSat.apart h (i := 6) (j := 7) (e1 := .sl .own 148 2 (canF x) encPr zPr) (e2 := .pf (DeepAt encI gm1 DLm1) (ftR gm1 DLm1)) (by kernel_rfl) (by kernel_rfl) (by decide) (.inl rfl) q hV hq⟩⟩
  have e0 : nV 0 = g0 := h.ini 0 (by show 0 < 2; decide)
  have e1 : nV 1 = g1 := h.ini 1 (by show 1 < 2; decide)
  have ea : askTL x = 22 := by unfold askTL; rw [if_pos (by have := hc4; simp at this; omega)]
  rw [← e0, ← e1, ea]; rfl
 have hc4' := hc4; try simp only [bfs, ne_eq] at hc4'
 refine WP_skip ?_
 refine WSA tt_ok ?_
 refine WP_ret ?_
 refine ⟨.t [(true, (lanC (.ref 0) x [.ref 1, .v (.map (some gm1)), .ref 6])), (false, [.int .i64 0])], by kernel_rfl, fun nV w' h => ⟨nV 6, gm1, DLm1, ?_, h.bel, (h.ents (7, .pf (DeepAt encI gm1 DLm1) (ftR gm1 DLm1)) (fnd_mem (by kernel_rfl))).1, hSDLm1, hokDLm1, own_of (z := zPr) (id := 6) h (by kernel_rfl), fun q hq hV => HSat.apart h (i := 6) (j := 7) (e1 := .sl .own 148 2 (canF x) encPr zPr) (e2 := .pf (DeepAt encI gm1 DLm1) (ftR gm1 DLm1)) (by kernel_rfl) (by kernel_rfl) (by decide) (.inl rfl) q hV hq⟩⟩
 have e0 : nV 0 = g0 := h.ini 0 (by show 0 < 2; decide)
 have e1 : nV 1 = g1 := h.ini 1 (by show 1 < 2; decide)
 have ea : askTL x = 0 := by unfold askTL; rw [if_neg (by have := hc4; simp at this; omega)]
 rw [← e0, ← e1, ea]; rfl
theorem askedL_no (g0 g1 : Value) (x : LBook) (isv : Bool) (w : World) (r0 : Reads w g0 2 x.tides encSpan zSpan) (r1 : Reads w g1 3 x.sounds encSound zSound) (hun : UnknownAt w) (hnw0 : NowhereAt w) (hq : (checkL x == 0 && isv) = false) : Calls Tryd.prog 82 #[.agg ((lanV g0 x [g1]).toArray), .bool isv] w fun e w' => e = .returned (.tuple #[.agg #[.slice none 0 0, iv 0, iv 0, iv 0, iv 0, iv 0, iv 0, iv 0, iv 0, iv 0, iv 0, iv 0, iv 0, .slice none 0 0, .map none, .slice none 0 0], iv (askNL x)]) ∧ Below w.heap.size w w' := by
 by_cases h1 : checkL x = 0
 ·refine askedL_ask g0 g1 x isv w r0 r1 hun hnw0 h1 ?_
  rw [h1] at hq
  simpa using hq
 exact askedL_bad g0 g1 x isv w r0 r1 hun hnw0 h1
def LAsksAt (w : World) : Prop := w.heap[1]? = some (.cells #[.func (.func 132) #[] #[], .func (.func 136) #[] #[]] 134 (0, 0))
def landsL (x : LBook) (shore : Int) (hour : Int) (load : Int) : Int × Int :=
 (bif (checkL x == 0) && (((isShoreL shore) && (isHourL x hour)) && (isLoadL load)) then (bif (askTL x) != 0 then (0, askTL x) else (bif (mustD (⟨x, (canF x)⟩ : LOpen) (⟨hour, shore⟩ : (Int × Int)) load) then IntKind.i64.wrap ((bif (mayD (⟨x, (canF x)⟩ : LOpen) (⟨hour, shore⟩ : (Int × Int)) load) then IntKind.i64.wrap (0 + 1) else 0) + 1) else bif (mayD (⟨x, (canF x)⟩ : LOpen) (⟨hour, shore⟩ : (Int × Int)) load) then IntKind.i64.wrap (0 + 1) else 0, 0)) else (bif (askNL x) != 0 then (0, askNL x) else (0, askNL x)))
set_option maxHeartbeats 2000000 in
theorem landsL_calls (g0 g1 : Value) (x : LBook) (shore : Int) (hour : Int) (load : Int) (w : World) (r0 : Reads w g0 2 x.tides encSpan zSpan) (r1 : Reads w g1 3 x.sounds encSound zSound) (hun : UnknownAt w) (hnw0 : NowhereAt w) (hla : LAsksAt w) : Calls Tryd.prog 54 #[.agg ((lanV g0 x [g1]).toArray), iv shore, iv hour, iv load] w fun e w' => e = .returned (.tuple #[iv (landsL x shore hour load).1, iv (landsL x shore hour load).2]) ∧ Below w.heap.size w w' := by
 cases hq : ((checkL x == 0) && (((isShoreL shore) && (isHourL x hour)) && (isLoadL load)))
 ·refine CW tt_ok [g0, g1] 2 [.g (lR x), .s (.int .i64 shore), .s (.int .i64 hour), .s (.int .i64 load)] (roL x [(2, .pf UnknownAt (· = 4)), (3, .pf NowhereAt (· = 3)), (4, .pf LAsksAt (· = 1))]) 5 Tryd.func54 rfl rfl rfl (by simp [r0.one, r1.one]) ⟨ro_in r0, ro_in r1, pf_in hun, pf_in hnw0, pf_in hla, trivial⟩ ?_
  have hl0 := Reads.len r0
  have hl1 := Reads.len r1
  refine WSA tt_ok ?_
  refine WP_seq (WP_toX (σ := Unit) (fun _ => ⟨49, [(11, [], .s (.int .i64 (askNL x))), (10, [], .s (.p 6 0)), (1, [], .s (.int .i64 shore)), (2, [], .s (.int .i64 hour)), (3, [], .s (.int .i64 load))], ((6, .box 128 zM) :: (5, .box 30 (lR x)) :: (roL x [(2, .pf UnknownAt (· = 4)), (3, .pf NowhereAt (· = 3)), (4, .pf LAsksAt (· = 1))])), 7, []⟩) ?_ ?_)
  ·refine WP_drawH [] (by kernel_rfl) (by kernel_rfl) ?_
   refine H_rn tt_ok [0, 1] ?_
   refine H_tw 2 16 (fun hfz cx' hx1 hx2 => ?z1) (fun hfz cx' hx1 hx2 => ?z2)
   case' z1 => refine CAL 70 [.s (.int .i64 shore)] (.s (.bool (isShoreL shore))) [] (fun hG nV w h => isShoreL_calls  shore w  ) ?_
   case' z2 => refine WPA tt_ok ?_
   case' z1 => refine WPE (hfz.fs [5, 0, 1, 2, 3, 4]) ?_
   case' z2 => refine ⟨rfl, (hfz.fs [5, 0, 1, 2, 3, 4]), ?_⟩
   case' z1 => refine H_rn tt_ok [3, 4, 5] ?_
   case' z2 => refine H_stp 2 fun hfz cx' hx1 hx2 => ?_
   case' z1 => refine H_tw 6 16 (fun hfz cx' hx1 hx2 => ?z3) (fun hfz cx' hx1 hx2 => ?z4)
   case' z2 => refine CAL 70 [.s (.int .i64 shore)] (.s (.bool (isShoreL shore))) [] (fun hG nV w h => isShoreL_calls  shore w  ) ?_
   case' z3 => refine CAL 69 [.g (lR x), .s (.int .i64 hour)] (.s (.bool (isHourL x hour))) [((isShoreL shore), true)] (fun hG nV w h => isHourL_calls (nV 0) (nV 1) x hour w (h.rd 0 24) (h.rd 1 112) ) ?_
   case' z3 | z2 => refine WPE (hfz.fs [5, 0, 1, 2, 3, 4]) ?_
   case' z4 => refine WPA tt_ok ?_; refine ⟨rfl, (hfz.fs [5, 0, 1, 2, 3, 4]), ?_⟩
   case' z2 => refine H_rn tt_ok [3, 4, 5] ?_
   case' z4 | z2 => refine H_stp 6 fun hfz cx' hx1 hx2 => ?_
   case' z3 => refine H_rn tt_ok [7, 8, 9] ?_
   case' z4 | z2 => refine CAL 69 [.g (lR x), .s (.int .i64 hour)] (.s (.bool (isHourL x hour))) [((isShoreL shore), true)] (fun hG nV w h => isHourL_calls (nV 0) (nV 1) x hour w (h.rd 0 24) (h.rd 1 112) ) ?_
   case' z3 => refine H_tw 10 16 (fun hfz cx' hx1 hx2 => ?z5) (fun hfz cx' hx1 hx2 => ?z6)
   case' z4 | z2 => refine WPE (hfz.fs [5, 0, 1, 2, 3, 4]) ?_
   case' z5 => refine CAL 83 [.s (.int .i64 load)] (.s (.bool (isLoadL load))) [((isShoreL shore) && (isHourL x hour), true)] (fun hG nV w h => isLoadL_calls  load w  ) ?_
   case' z6 => refine WPA tt_ok ?_
   case' z4 | z2 => refine H_rn tt_ok [7, 8, 9] ?_
   case' z5 => refine WPE (hfz.fs [5, 0, 1, 2, 3, 4]) ?_
   case' z6 => refine ⟨rfl, (hfz.fs [5, 0, 1, 2, 3, 4]), ?_⟩
   case' z6 | z4 | z2 => refine H_stp 10 fun hfz cx' hx1 hx2 => ?_
   case' z5 => refine H_rn tt_ok [11] ?_
   case' z6 | z4 | z2 => refine CAL 83 [.s (.int .i64 load)] (.s (.bool (isLoadL load))) [((isShoreL shore) && (isHourL x hour), true)] (fun hG nV w h => isLoadL_calls  load w  ) ?_
   case' z5 => refine H_tw 12 16 (fun hfz cx' hx1 hx2 => ?z7) (fun hfz cx' hx1 hx2 => ?z8)
   case' z6 | z4 | z2 => refine WPE (hfz.fs [5, 0, 1, 2, 3, 4]) ?_
   case' z7 => refine CAL 82 [.g (lR x), .s (.bool (((isShoreL shore) && (isHourL x hour)) && (isLoadL load)))] (.t [(true, zM), (false, [.int .i64 (askNL x)])]) [] (fun _ nV w h => askedL_no (nV 0) (nV 1) x _ w (h.rd 0 24) (h.rd 1 112) (h.ft 2 4) (h.ft 3 3) hq) ?_
   case' z8 => refine WPA tt_ok ?_
   case' z6 | z4 | z2 => refine H_rn tt_ok [11] ?_
   case' z7 => refine WPE (hfz.fs [5, 0, 1, 2, 3, 4]) ?_
   case' z8 => refine ⟨rfl, (hfz.fs [5, 0, 1, 2, 3, 4]), ?_⟩
   case' z8 | z6 | z4 | z2 => refine H_stp 12 fun hfz cx' hx1 hx2 => ?_
   case' z7 => refine H_rn tt_ok [13, 14, 15] ?_
   case' z8 | z6 | z4 | z2 => refine CAL 82 [.g (lR x), .s (.bool (((isShoreL shore) && (isHourL x hour)) && (isLoadL load)))] (.t [(true, zM), (false, [.int .i64 (askNL x)])]) [] (fun _ nV w h => askedL_no (nV 0) (nV 1) x _ w (h.rd 0 24) (h.rd 1 112) (h.ft 2 4) (h.ft 3 3) hq) ?_
   case' z7 => refine H_stp 16 fun hfz cx' hx1 hx2 => ?_
   case' z8 | z6 | z4 | z2 => refine WPE (hfz.fs [5, 0, 1, 2, 3, 4]) ?_
   case' z7 => refine WPA tt_ok ?_
   case' z8 | z6 | z4 | z2 => refine H_rn tt_ok [13, 14, 15] ?_
   case' z7 => refine ⟨rfl, (hfz.fs [5, 0, 1, 2, 3, 4]), ?_⟩
   all_goals (refine H_stp 17 fun hfz cx' hx1 hx2 => ?_; refine WPA tt_ok ?_; refine ⟨rfl, (hfz.fs [5, 0, 1, 2, 3, 4]), ?_⟩; refine H_rn tt_ok [18] ?_; refine H_done (by kernel_rfl) ?_; exact ⟨(), Le_sel (ts := [11, 10, 1, 2, 3]) (ids := [6, 5, 0, 1, 2, 3, 4]) (nx := 7) (by kernel_rfl)⟩)
  intro _
  refine WP_seq (WSA tt_ok ?_)
  refine WP_cond ((askNL x) != 0) (by kernel_rfl) (fun hc1 => ?_) (fun h => by rw [askNL_ne x] at h; cases h)
  refine WSA tt_ok ?_
  refine WP_ret ?_
  exact ⟨.t [(false, [.int .i64 0]), (false, [.int .i64 (askNL x)])], by kernel_rfl, fun nV w' h => ⟨by rw [show landsL x shore hour load = (0, askNL x) from by unfold landsL; simp only [hq, hc1, cond_true, cond_false]]; rfl, h.bel⟩⟩
 have hqq := hq
 rw [Bool.and_eq_true] at hqq
 have hq1 : checkL x = 0 := by simpa using hqq.1
 have hq2 := hqq.2
 have hv : ValidL x := checkL_valid.1 hq1
 have hn24 := hv.nt
 have hb3 := hq2
 simp only [Bool.and_eq_true, isShoreL, isHourL, isLoadL, withinL, decide_eq_true_eq] at hb3
 rw [wrapI (by omega) (by omega)] at hb3
 have hp0 : 0 ≤ hour ∧ hour < x.tides.length := ⟨hb3.1.2.1, by omega⟩
 have hp1 : 0 ≤ shore ∧ shore ≤ 1 := hb3.1.1
 refine CW tt_ok [g0, g1] 2 [.g (lR x), .s (.int .i64 shore), .s (.int .i64 hour), .s (.int .i64 load)] (roL x [(2, .pf UnknownAt (· = 4)), (3, .pf NowhereAt (· = 3)), (4, .pf LAsksAt (· = 1))]) 5 Tryd.func54 rfl rfl rfl (by simp [r0.one, r1.one]) ⟨ro_in r0, ro_in r1, pf_in hun, pf_in hnw0, pf_in hla, trivial⟩ ?_
 have hl0 := Reads.len r0
 have hl1 := Reads.len r1
 refine WSA tt_ok ?_
 refine WP_seq (WP_toX (σ := { p : Nat × List DRow // p.2.map dkStrip = deepS x }) (fun zz => ⟨49, [(11, [], .s (.int .i64 (askTL x))), (10, [], .s (.p 8 0)), (1, [], .s (.int .i64 shore)), (2, [], .s (.int .i64 hour)), (3, [], .s (.int .i64 load))], ((8, .box 128 (lanC (.ref 0) x [.ref 1, .v (.map (some zz.1.1)), .ref 6])) :: (7, .pf (DeepAt encI zz.1.1 zz.1.2) (ftR zz.1.1 zz.1.2)) :: (6, .sl .own 148 2 (canF x) encPr zPr) :: (5, .box 30 (lR x)) :: (roL x [(2, .pf UnknownAt (· = 4)), (3, .pf NowhereAt (· = 3)), (4, .pf LAsksAt (· = 1))])), 9, []⟩) ?_ ?_)
 ·refine WP_drawH [] (by kernel_rfl) (by kernel_rfl) ?_
  refine H_rn tt_ok [0, 1] ?_
  refine H_tw 2 16 (fun hfz cx' hx1 hx2 => ?z9) (fun hfz cx' hx1 hx2 => ?z10)
  case' z9 => refine CAL 70 [.s (.int .i64 shore)] (.s (.bool (isShoreL shore))) [] (fun hG nV w h => isShoreL_calls  shore w  ) ?_
  case' z10 => refine WPA tt_ok ?_
  case' z9 => refine WPE (hfz.fs [5, 0, 1, 2, 3, 4]) ?_
  case' z10 => refine ⟨rfl, (hfz.fs [5, 0, 1, 2, 3, 4]), ?_⟩
  case' z9 => refine H_rn tt_ok [3, 4, 5] ?_
  case' z10 => refine H_stp 2 fun hfz cx' hx1 hx2 => ?_
  case' z9 => refine H_tw 6 16 (fun hfz cx' hx1 hx2 => ?z11) (fun hfz cx' hx1 hx2 => ?z12)
  case' z10 => refine CAL 70 [.s (.int .i64 shore)] (.s (.bool (isShoreL shore))) [] (fun hG nV w h => isShoreL_calls  shore w  ) ?_
  case' z11 => refine CAL 69 [.g (lR x), .s (.int .i64 hour)] (.s (.bool (isHourL x hour))) [((isShoreL shore), true)] (fun hG nV w h => isHourL_calls (nV 0) (nV 1) x hour w (h.rd 0 24) (h.rd 1 112) ) ?_
  case' z11 | z10 => refine WPE (hfz.fs [5, 0, 1, 2, 3, 4]) ?_
  case' z12 => refine WPA tt_ok ?_; refine ⟨rfl, (hfz.fs [5, 0, 1, 2, 3, 4]), ?_⟩
  case' z10 => refine H_rn tt_ok [3, 4, 5] ?_
  case' z12 | z10 => refine H_stp 6 fun hfz cx' hx1 hx2 => ?_
  case' z11 => refine H_rn tt_ok [7, 8, 9] ?_
  case' z12 | z10 => refine CAL 69 [.g (lR x), .s (.int .i64 hour)] (.s (.bool (isHourL x hour))) [((isShoreL shore), true)] (fun hG nV w h => isHourL_calls (nV 0) (nV 1) x hour w (h.rd 0 24) (h.rd 1 112) ) ?_
  case' z11 => refine H_tw 10 16 (fun hfz cx' hx1 hx2 => ?z13) (fun hfz cx' hx1 hx2 => ?z14)
  case' z12 | z10 => refine WPE (hfz.fs [5, 0, 1, 2, 3, 4]) ?_
  case' z13 => refine CAL 83 [.s (.int .i64 load)] (.s (.bool (isLoadL load))) [((isShoreL shore) && (isHourL x hour), true)] (fun hG nV w h => isLoadL_calls  load w  ) ?_
  case' z14 => refine WPA tt_ok ?_
  case' z12 | z10 => refine H_rn tt_ok [7, 8, 9] ?_
  case' z13 => refine WPE (hfz.fs [5, 0, 1, 2, 3, 4]) ?_
  case' z14 => refine ⟨rfl, (hfz.fs [5, 0, 1, 2, 3, 4]), ?_⟩
  case' z14 | z12 | z10 => refine H_stp 10 fun hfz cx' hx1 hx2 => ?_
  case' z13 => refine H_rn tt_ok [11] ?_
  case' z14 | z12 | z10 => refine CAL 83 [.s (.int .i64 load)] (.s (.bool (isLoadL load))) [((isShoreL shore) && (isHourL x hour), true)] (fun hG nV w h => isLoadL_calls  load w  ) ?_
  case' z13 => refine H_tw 12 16 (fun hfz cx' hx1 hx2 => ?z15) (fun hfz cx' hx1 hx2 => ?z16)
  case' z14 | z12 | z10 => refine WPE (hfz.fs [5, 0, 1, 2, 3, 4]) ?_
  case' z15 => refine CALLDEEP 82 [.g (lR x), .s (.bool (((isShoreL shore) && (isHourL x hour)) && (isLoadL load)))] (fun gmq0 => .t [(true, (lanC (.ref 0) x [.ref 1, .v (.map (some gmq0)), .ref 6])), (false, [.int .i64 (askTL x)])]) 148 2 (canF x) encPr zPr encI (deepS x) 6 (by kernel_rfl) (by kernel_rfl) (goes_of (by kernel_rfl)) (fun _ _ => (by kernel_rfl)) (fun _ _ => (by kernel_rfl)) (fun _ => rfl) 0 1 (by kernel_rfl) (by kernel_rfl) (fun gmq0 va vb vc => Value.tuple #[Value.agg #[va, .int .i64 x.shores.1.fl.lo, .int .i64 x.shores.1.fl.hi, .int .i64 x.shores.1.lo, .int .i64 x.shores.1.hi, .int .i64 x.shores.2.fl.lo, .int .i64 x.shores.2.fl.hi, .int .i64 x.shores.2.lo, .int .i64 x.shores.2.hi, .int .i64 x.empty.lo, .int .i64 x.empty.hi, .int .i64 x.sink, .int .i64 x.under, vb, .map (some gmq0), vc], .int .i64 (askTL x)]) (fun gmq0 n => (by kernel_rfl)) (fun nV w h => askedL_yes (nV 0) (nV 1) x _ w (h.rd 0 24) (h.rd 1 112) (h.ft 2 4) (h.ft 3 3) hq1 hq2) (fun gmq0 DLmq1 hSDLmq2 hokDLmq3 => ?_)
  case' z16 => refine WPA tt_ok ?_
  case' z14 | z12 | z10 => refine H_rn tt_ok [11] ?_
  case' z15 => refine WPE (hfz.fs [5, 0, 1, 2, 3, 4]) ?_
  case' z16 => refine ⟨rfl, (hfz.fs [5, 0, 1, 2, 3, 4]), ?_⟩
  case' z16 | z14 | z12 | z10 => refine H_stp 12 fun hfz cx' hx1 hx2 => ?_
  case' z15 => refine H_rn tt_ok [13, 14, 15] ?_
  case' z16 | z14 | z12 | z10 => refine CALLDEEP 82 [.g (lR x), .s (.bool (((isShoreL shore) && (isHourL x hour)) && (isLoadL load)))] (fun gmq0 => .t [(true, (lanC (.ref 0) x [.ref 1, .v (.map (some gmq0)), .ref 7])), (false, [.int .i64 (askTL x)])]) 148 2 (canF x) encPr zPr encI (deepS x) 7 (by kernel_rfl) (by kernel_rfl) (goes_of (by kernel_rfl)) (fun _ _ => (by kernel_rfl)) (fun _ _ => (by kernel_rfl)) (fun _ => rfl) 0 1 (by kernel_rfl) (by kernel_rfl) (fun gmq0 va vb vc => Value.tuple #[Value.agg #[va, .int .i64 x.shores.1.fl.lo, .int .i64 x.shores.1.fl.hi, .int .i64 x.shores.1.lo, .int .i64 x.shores.1.hi, .int .i64 x.shores.2.fl.lo, .int .i64 x.shores.2.fl.hi, .int .i64 x.shores.2.lo, .int .i64 x.shores.2.hi, .int .i64 x.empty.lo, .int .i64 x.empty.hi, .int .i64 x.sink, .int .i64 x.under, vb, .map (some gmq0), vc], .int .i64 (askTL x)]) (fun gmq0 n => (by kernel_rfl)) (fun nV w h => askedL_yes (nV 0) (nV 1) x _ w (h.rd 0 24) (h.rd 1 112) (h.ft 2 4) (h.ft 3 3) hq1 hq2) (fun gmq0 DLmq1 hSDLmq2 hokDLmq3 => ?_)
  case' z15 => refine H_stp 16 fun hfz cx' hx1 hx2 => ?_
  case' z16 | z14 | z12 | z10 => refine WPE (hfz.fs [5, 0, 1, 2, 3, 4]) ?_
  case' z15 => refine WPA tt_ok ?_
  case' z16 | z14 | z12 | z10 => refine H_rn tt_ok [13, 14, 15] ?_
  case' z15 => refine ⟨rfl, (hfz.fs [5, 0, 1, 2, 3, 4]), ?_⟩
  all_goals (refine H_stp 17 fun hfz cx' hx1 hx2 => ?_; refine WPA tt_ok ?_; refine ⟨rfl, (hfz.fs [5, 0, 1, 2, 3, 4]), ?_⟩; refine H_rn tt_ok [18] ?_; refine H_done (by kernel_rfl) ?_)
  case' z16 | z14 | z12 | z10 => exact ⟨⟨(gmq0, DLmq1), hSDLmq2⟩, Le_ren [(8, 6), (7, 8), (6, 7)] (by repeat (first | exact trivial | refine ⟨by kernel_rfl, ?_⟩)) ⟨by kernel_rfl, rfl, by kernel_rfl, by kernel_rfl, rfl, by kernel_rfl, by kernel_rfl, rfl, by kernel_rfl, by kernel_rfl, rfl, by kernel_rfl, by kernel_rfl, rfl, by kernel_rfl, trivial⟩ (by kernel_rfl) (by kernel_rfl) (rnm_id (m := 2) (by kernel_rfl)) (by show 2 ≤ 9; decide) (by kernel_rfl) (by kernel_rfl)⟩
  exact ⟨⟨(gmq0, DLmq1), hSDLmq2⟩, Le_sel (ts := [11, 10, 1, 2, 3]) (ids := [8, 7, 6, 5, 0, 1, 2, 3, 4]) (nx := 9) (by kernel_rfl)⟩
 rintro ⟨⟨gm1, DLm1⟩, hSDLm1⟩
 simp only at hSDLm1
 refine WP_seq (WSA tt_ok ?_)
 refine WP_cond ((askTL x) != 0) (by kernel_rfl) (fun hc3 => ?_) (fun hc3 => ?_)
 ·have hc3' := hc3; try simp only [bfs, ne_eq] at hc3'
  refine WSA tt_ok ?_
  refine WP_ret ?_
  exact ⟨.t [(false, [.int .i64 0]), (false, [.int .i64 (askTL x)])], by kernel_rfl, fun nV w' h => ⟨by rw [show landsL x shore hour load = (0, askTL x) from by unfold landsL; simp only [hq, hc3, cond_true, cond_false]]; rfl, h.bel⟩⟩
 have hc3' := hc3; try simp only [bfs, ne_eq] at hc3'
 refine WP_skip ?_
 refine WSA tt_ok ?_
 refine WP_seq (WP_seq (WP_region (LDGo tt_ok 134 1 0 (some 34) [.v (.func (.func 132) #[] #[]), .v (.func (.func 136) #[] #[])] 134 (.g [.v (.func (.func 132) #[] #[]), .v (.func (.func 136) #[] #[])]) (by kernel_rfl) (by kernel_rfl) (by kernel_rfl) (fun nV w h => (h.fu 4 1 LAsksAt)) (by kernel_rfl) ?_)))
 refine WPA tt_ok ?_
 refine WP_block (WP_loop (σ := Nat) (fun zz => match zz with | 0 => ⟨49, [(35, [], .s (.int .i64 0)), (34, [], .g [.v (.func (.func 132) #[] #[]), .v (.func (.func 136) #[] #[])]), (12, [], .s (.int .i64 0)), (10, [], .s (.p 8 0)), (1, [], .s (.int .i64 shore)), (2, [], .s (.int .i64 hour)), (3, [], .s (.int .i64 load))], ((8, .box 128 (lanC (.ref 0) x [.ref 1, .v (.map (some gm1)), .ref 6])) :: (7, .pf (DeepAt encI gm1 DLm1) (ftR gm1 DLm1)) :: (6, .sl .own 148 2 (canF x) encPr zPr) :: (5, .box 30 (lR x)) :: (roL x [(2, .pf UnknownAt (· = 4)), (3, .pf NowhereAt (· = 3)), (4, .pf LAsksAt (· = 1))])), 9, []⟩ | 1 => ⟨49, [(35, [], .s (.int .i64 1)), (34, [], .g [.v (.func (.func 132) #[] #[]), .v (.func (.func 136) #[] #[])]), (12, [], .s (.int .i64 (bif (mayD (⟨x, (canF x)⟩ : LOpen) (⟨hour, shore⟩ : (Int × Int)) load) then IntKind.i64.wrap (0 + 1) else 0))), (10, [], .s (.p 8 0)), (1, [], .s (.int .i64 shore)), (2, [], .s (.int .i64 hour)), (3, [], .s (.int .i64 load))], ((8, .box 128 (lanC (.ref 0) x [.ref 1, .v (.map (some gm1)), .ref 6])) :: (7, .pf (DeepAt encI gm1 DLm1) (ftR gm1 DLm1)) :: (6, .sl .own 148 2 (canF x) encPr zPr) :: (5, .box 30 (lR x)) :: (roL x [(2, .pf UnknownAt (· = 4)), (3, .pf NowhereAt (· = 3)), (4, .pf LAsksAt (· = 1))])), 9, []⟩ | _ => ⟨49, [(35, [], .s (.int .i64 2)), (34, [], .g [.v (.func (.func 132) #[] #[]), .v (.func (.func 136) #[] #[])]), (12, [], .s (.int .i64 (bif (mustD (⟨x, (canF x)⟩ : LOpen) (⟨hour, shore⟩ : (Int × Int)) load) then IntKind.i64.wrap ((bif (mayD (⟨x, (canF x)⟩ : LOpen) (⟨hour, shore⟩ : (Int × Int)) load) then IntKind.i64.wrap (0 + 1) else 0) + 1) else bif (mayD (⟨x, (canF x)⟩ : LOpen) (⟨hour, shore⟩ : (Int × Int)) load) then IntKind.i64.wrap (0 + 1) else 0))), (10, [], .s (.p 8 0)), (1, [], .s (.int .i64 shore)), (2, [], .s (.int .i64 hour)), (3, [], .s (.int .i64 load))], ((8, .box 128 (lanC (.ref 0) x [.ref 1, .v (.map (some gm1)), .ref 6])) :: (7, .pf (DeepAt encI gm1 DLm1) (ftR gm1 DLm1)) :: (6, .sl .own 148 2 (canF x) encPr zPr) :: (5, .box 30 (lR x)) :: (roL x [(2, .pf UnknownAt (· = 4)), (3, .pf NowhereAt (· = 3)), (4, .pf LAsksAt (· = 1))])), 9, []⟩) (fun zz => zz ≤ 2) (fun zz => 2 - zz) 0 (by decide) (Le_sel (ts := [35, 34, 12, 10, 1, 2, 3]) (ids := [8, 7, 6, 5, 0, 1, 2, 3, 4]) (nx := 9) (by kernel_rfl)) ?_)
 intro kU hkU
 rcases (show kU = 0 ∨ kU = 1 ∨ kU = 2 by omega) with rfl | rfl | rfl
 ·show WP Tryd.prog _ ⟨49, [(35, [], .s (.int .i64 0)), (34, [], .g [.v (.func (.func 132) #[] #[]), .v (.func (.func 136) #[] #[])]), (12, [], .s (.int .i64 0)), (10, [], .s (.p 8 0)), (1, [], .s (.int .i64 shore)), (2, [], .s (.int .i64 hour)), (3, [], .s (.int .i64 load))], ((8, .box 128 (lanC (.ref 0) x [.ref 1, .v (.map (some gm1)), .ref 6])) :: (7, .pf (DeepAt encI gm1 DLm1) (ftR gm1 DLm1)) :: (6, .sl .own 148 2 (canF x) encPr zPr) :: (5, .box 30 (lR x)) :: (roL x [(2, .pf UnknownAt (· = 4)), (3, .pf NowhereAt (· = 3)), (4, .pf LAsksAt (· = 1))])), 9, []⟩ _ _
  refine WSA tt_ok ?_
  refine WP_seq (WP_cond (decide ((0 : Int) < 2)) (by kernel_rfl) (fun hc4 => ?_) (fun h => by cases h))
  refine WP_skip ?_
  refine WP_seq (WP_block ?_)
  refine WSA tt_ok ?_
  refine WSR tt_ok 6 ?_
  refine CAL 132 [.g (lanC (.ref 0) x [.ref 1, .v (.map (some gm1)), .ref 6]), .g [.int .i64 hour, .int .i64 shore], .s (.int .i64 load)] (.s (.bool (mayD (⟨x, (canF x)⟩ : LOpen) (⟨hour, shore⟩ : (Int × Int)) load))) [] (fun _ nV w h => mayD_calls (nV 0) (nV 1) (nV 6) gm1 DLm1 (⟨x, (canF x)⟩ : LOpen) (⟨hour, shore⟩ : (Int × Int)) load w (h.rd 0 24) (h.rd 1 112) (h.reads (id := 6) (kd := .own) (e := 148) (by kernel_rfl)) (h.ents (7, .pf (DeepAt encI gm1 DLm1) (ftR gm1 DLm1)) (fnd_mem (by kernel_rfl))).1 (by first | assumption | omega) (by first | assumption | omega) (by first | assumption | omega) (by first | assumption | omega)) ?_
  refine WPO_nil ?_
  refine WP_join (mayD (⟨x, (canF x)⟩ : LOpen) (⟨hour, shore⟩ : (Int × Int)) load) (fun q => ⟨49, [(12, [], .s (.int .i64 (bif q then IntKind.i64.wrap (0 + 1) else 0))), (35, [], .s (.int .i64 0)), (34, [], .g [.v (.func (.func 132) #[] #[]), .v (.func (.func 136) #[] #[])]), (10, [], .s (.p 8 0)), (1, [], .s (.int .i64 shore)), (2, [], .s (.int .i64 hour)), (3, [], .s (.int .i64 load))], ((8, .box 128 (lanC (.ref 0) x [.ref 1, .v (.map (some gm1)), .ref 6])) :: (7, .pf (DeepAt encI gm1 DLm1) (ftR gm1 DLm1)) :: (6, .sl .own 148 2 (canF x) encPr zPr) :: (5, .box 30 (lR x)) :: (roL x [(2, .pf UnknownAt (· = 4)), (3, .pf NowhereAt (· = 3)), (4, .pf LAsksAt (· = 1))])), 9, []⟩) (by kernel_rfl) (fun hc6 => ?_) (fun hc6 => ?_) ?_
  ·refine WRA tt_ok ?_
   exact Le_sel (ts := [12, 35, 34, 10, 1, 2, 3]) (ids := [8, 7, 6, 5, 0, 1, 2, 3, 4]) (nx := 9) (by kernel_rfl)
  ·refine WP_skip ?_
   exact Le_sel (ts := [12, 35, 34, 10, 1, 2, 3]) (ids := [8, 7, 6, 5, 0, 1, 2, 3, 4]) (nx := 9) (by kernel_rfl)
  refine WRA tt_ok ?_
  exact ⟨1, by decide, by decide, Le_sel (ts := [35, 34, 12, 10, 1, 2, 3]) (ids := [8, 7, 6, 5, 0, 1, 2, 3, 4]) (nx := 9) (by kernel_rfl)⟩
 ·show WP Tryd.prog _ ⟨49, [(35, [], .s (.int .i64 1)), (34, [], .g [.v (.func (.func 132) #[] #[]), .v (.func (.func 136) #[] #[])]), (12, [], .s (.int .i64 (bif (mayD (⟨x, (canF x)⟩ : LOpen) (⟨hour, shore⟩ : (Int × Int)) load) then IntKind.i64.wrap (0 + 1) else 0))), (10, [], .s (.p 8 0)), (1, [], .s (.int .i64 shore)), (2, [], .s (.int .i64 hour)), (3, [], .s (.int .i64 load))], ((8, .box 128 (lanC (.ref 0) x [.ref 1, .v (.map (some gm1)), .ref 6])) :: (7, .pf (DeepAt encI gm1 DLm1) (ftR gm1 DLm1)) :: (6, .sl .own 148 2 (canF x) encPr zPr) :: (5, .box 30 (lR x)) :: (roL x [(2, .pf UnknownAt (· = 4)), (3, .pf NowhereAt (· = 3)), (4, .pf LAsksAt (· = 1))])), 9, []⟩ _ _
  refine WSA tt_ok ?_
  refine WP_seq (WP_cond (decide ((1 : Int) < 2)) (by kernel_rfl) (fun hc7 => ?_) (fun h => by cases h))
  refine WP_skip ?_
  refine WP_seq (WP_block ?_)
  refine WSA tt_ok ?_
  refine WSR tt_ok 6 ?_
  refine CAL 136 [.g (lanC (.ref 0) x [.ref 1, .v (.map (some gm1)), .ref 6]), .g [.int .i64 hour, .int .i64 shore], .s (.int .i64 load)] (.s (.bool (mustD (⟨x, (canF x)⟩ : LOpen) (⟨hour, shore⟩ : (Int × Int)) load))) [] (fun _ nV w h => mustD_calls (nV 0) (nV 1) (nV 6) gm1 DLm1 (⟨x, (canF x)⟩ : LOpen) (⟨hour, shore⟩ : (Int × Int)) load w (h.rd 0 24) (h.rd 1 112) (h.reads (id := 6) (kd := .own) (e := 148) (by kernel_rfl)) (h.ents (7, .pf (DeepAt encI gm1 DLm1) (ftR gm1 DLm1)) (fnd_mem (by kernel_rfl))).1 (by first | assumption | omega) (by first | assumption | omega) (by first | assumption | omega) (by first | assumption | omega)) ?_
  refine WPO_nil ?_
  refine WP_join (mustD (⟨x, (canF x)⟩ : LOpen) (⟨hour, shore⟩ : (Int × Int)) load) (fun q => ⟨49, [(12, [], .s (.int .i64 (bif q then IntKind.i64.wrap ((bif (mayD (⟨x, (canF x)⟩ : LOpen) (⟨hour, shore⟩ : (Int × Int)) load) then IntKind.i64.wrap (0 + 1) else 0) + 1) else bif (mayD (⟨x, (canF x)⟩ : LOpen) (⟨hour, shore⟩ : (Int × Int)) load) then IntKind.i64.wrap (0 + 1) else 0))), (35, [], .s (.int .i64 1)), (34, [], .g [.v (.func (.func 132) #[] #[]), .v (.func (.func 136) #[] #[])]), (10, [], .s (.p 8 0)), (1, [], .s (.int .i64 shore)), (2, [], .s (.int .i64 hour)), (3, [], .s (.int .i64 load))], ((8, .box 128 (lanC (.ref 0) x [.ref 1, .v (.map (some gm1)), .ref 6])) :: (7, .pf (DeepAt encI gm1 DLm1) (ftR gm1 DLm1)) :: (6, .sl .own 148 2 (canF x) encPr zPr) :: (5, .box 30 (lR x)) :: (roL x [(2, .pf UnknownAt (· = 4)), (3, .pf NowhereAt (· = 3)), (4, .pf LAsksAt (· = 1))])), 9, []⟩) (by kernel_rfl) (fun hc9 => ?_) (fun hc9 => ?_) ?_
  ·refine WRA tt_ok ?_
   exact Le_sel (ts := [12, 35, 34, 10, 1, 2, 3]) (ids := [8, 7, 6, 5, 0, 1, 2, 3, 4]) (nx := 9) (by kernel_rfl)
  ·refine WP_skip ?_
   exact Le_sel (ts := [12, 35, 34, 10, 1, 2, 3]) (ids := [8, 7, 6, 5, 0, 1, 2, 3, 4]) (nx := 9) (by kernel_rfl)
  refine WRA tt_ok ?_
  exact ⟨2, by decide, by decide, Le_sel (ts := [35, 34, 12, 10, 1, 2, 3]) (ids := [8, 7, 6, 5, 0, 1, 2, 3, 4]) (nx := 9) (by kernel_rfl)⟩
 show WP Tryd.prog _ ⟨49, [(35, [], .s (.int .i64 2)), (34, [], .g [.v (.func (.func 132) #[] #[]), .v (.func (.func 136) #[] #[])]), (12, [], .s (.int .i64 (bif (mustD (⟨x, (canF x)⟩ : LOpen) (⟨hour, shore⟩ : (Int × Int)) load) then IntKind.i64.wrap ((bif (mayD (⟨x, (canF x)⟩ : LOpen) (⟨hour, shore⟩ : (Int × Int)) load) then IntKind.i64.wrap (0 + 1) else 0) + 1) else bif (mayD (⟨x, (canF x)⟩ : LOpen) (⟨hour, shore⟩ : (Int × Int)) load) then IntKind.i64.wrap (0 + 1) else 0))), (10, [], .s (.p 8 0)), (1, [], .s (.int .i64 shore)), (2, [], .s (.int .i64 hour)), (3, [], .s (.int .i64 load))], ((8, .box 128 (lanC (.ref 0) x [.ref 1, .v (.map (some gm1)), .ref 6])) :: (7, .pf (DeepAt encI gm1 DLm1) (ftR gm1 DLm1)) :: (6, .sl .own 148 2 (canF x) encPr zPr) :: (5, .box 30 (lR x)) :: (roL x [(2, .pf UnknownAt (· = 4)), (3, .pf NowhereAt (· = 3)), (4, .pf LAsksAt (· = 1))])), 9, []⟩ _ _
 refine WSA tt_ok ?_
 refine WP_seq (WP_cond (decide ((2 : Int) < 2)) (by kernel_rfl) (fun h => by cases h) (fun hc10 => ?_))
 refine WP_exit ?_
 refine WSA tt_ok ?_
 refine WP_ret ?_
 exact ⟨.t [(false, [.int .i64 (bif (mustD (⟨x, (canF x)⟩ : LOpen) (⟨hour, shore⟩ : (Int × Int)) load) then IntKind.i64.wrap ((bif (mayD (⟨x, (canF x)⟩ : LOpen) (⟨hour, shore⟩ : (Int × Int)) load) then IntKind.i64.wrap (0 + 1) else 0) + 1) else bif (mayD (⟨x, (canF x)⟩ : LOpen) (⟨hour, shore⟩ : (Int × Int)) load) then IntKind.i64.wrap (0 + 1) else 0)]), (false, [.int .i64 0])], by kernel_rfl, fun nV w' h => ⟨by rw [show landsL x shore hour load = (bif (mustD (⟨x, (canF x)⟩ : LOpen) (⟨hour, shore⟩ : (Int × Int)) load) then IntKind.i64.wrap ((bif (mayD (⟨x, (canF x)⟩ : LOpen) (⟨hour, shore⟩ : (Int × Int)) load) then IntKind.i64.wrap (0 + 1) else 0) + 1) else bif (mayD (⟨x, (canF x)⟩ : LOpen) (⟨hour, shore⟩ : (Int × Int)) load) then IntKind.i64.wrap (0 + 1) else 0, 0) from by unfold landsL; simp only [hq, hc3, cond_true, cond_false]]; rfl, h.bel⟩⟩
def withinX (n : Int) (low : Int) (high : Int) : Bool :=
 (decide (low ≤ n)) && (decide (n ≤ high))
theorem withinX_calls  (n : Int) (low : Int) (high : Int) (w : World)   : Calls Tryd.prog 60 #[iv n, iv low, iv high] w fun e w' => e = .returned (.bool (withinX n low high)) ∧ Below w.heap.size w w' := by
 refine C0 tt_ok [.s (.int .i64 n), .s (.int .i64 low), .s (.int .i64 high)] Tryd.func60 rfl rfl rfl ?_
 refine WSA tt_ok ?_
 refine WSA tt_ok ?_
 refine WP_ret ?_
 exact ⟨.s (.bool ((decide (low ≤ n)) && (decide (n ≤ high)))), by kernel_rfl, fun nV w' h => ⟨by rw [show withinX n low high = ((decide (low ≤ n)) && (decide (n ≤ high))) from rfl]; rfl, h.bel⟩⟩
def isMinuteX (n : Int) : Bool :=
 (withinX n 0 60)
theorem isMinuteX_calls  (n : Int) (w : World)   : Calls Tryd.prog 48 #[iv n] w fun e w' => e = .returned (.bool (isMinuteX n)) ∧ Below w.heap.size w w' := by
 refine C0 tt_ok [.s (.int .i64 n)] Tryd.func48 rfl rfl rfl ?_
 refine WSA tt_ok ?_
 refine WSR tt_ok 1 ?_
 refine CAL 60 [.s (.int .i64 n), .s (.int .i64 0), .s (.int .i64 60)] (.s (.bool (withinX n 0 60))) [] (fun hG nV w h => withinX_calls  n 0 60 w  ) ?_
 refine WPA tt_ok ?_
 refine WP_ret ?_
 exact ⟨.s (.bool (withinX n 0 60)), by kernel_rfl, fun nV w' h => ⟨by rw [show isMinuteX n = (withinX n 0 60) from rfl]; rfl, h.bel⟩⟩
def isShoreX (n : Int) : Bool :=
 (withinX n 0 1)
theorem isShoreX_calls  (n : Int) (w : World)   : Calls Tryd.prog 46 #[iv n] w fun e w' => e = .returned (.bool (isShoreX n)) ∧ Below w.heap.size w w' := by
 refine C0 tt_ok [.s (.int .i64 n)] Tryd.func46 rfl rfl rfl ?_
 refine WSA tt_ok ?_
 refine WSR tt_ok 1 ?_
 refine CAL 60 [.s (.int .i64 n), .s (.int .i64 0), .s (.int .i64 1)] (.s (.bool (withinX n 0 1))) [] (fun hG nV w h => withinX_calls  n 0 1 w  ) ?_
 refine WPA tt_ok ?_
 refine WP_ret ?_
 exact ⟨.s (.bool (withinX n 0 1)), by kernel_rfl, fun nV w' h => ⟨by rw [show isShoreX n = (withinX n 0 1) from rfl]; rfl, h.bel⟩⟩
def isLoadX (n : Int) : Bool :=
 (withinX n 0 200)
theorem isLoadX_calls  (n : Int) (w : World)   : Calls Tryd.prog 47 #[iv n] w fun e w' => e = .returned (.bool (isLoadX n)) ∧ Below w.heap.size w w' := by
 refine C0 tt_ok [.s (.int .i64 n)] Tryd.func47 rfl rfl rfl ?_
 refine WSA tt_ok ?_
 refine WSR tt_ok 1 ?_
 refine CAL 60 [.s (.int .i64 n), .s (.int .i64 0), .s (.int .i64 200)] (.s (.bool (withinX n 0 200))) [] (fun hG nV w h => withinX_calls  n 0 200 w  ) ?_
 refine WPA tt_ok ?_
 refine WP_ret ?_
 exact ⟨.s (.bool (withinX n 0 200)), by kernel_rfl, fun nV w' h => ⟨by rw [show isLoadX n = (withinX n 0 200) from rfl]; rfl, h.bel⟩⟩
def leastX_c1 (first : Int) (l : List Int) (k1 : Nat) : Int → Bool := fun v1_1 => decide ((k1 : Int) < (l.length : Int))
def leastX_b1 (first : Int) (l : List Int) (k1 : Nat) : Int → Bd Int Int := fun v1_1 => .go (mn v1_1 (l.getD k1 0))
def leastX (first : Int) (l : List Int) : Int :=
 (match loopR (leastX_c1 first l) (leastX_b1 first l) l.length 0 first with | .brk u1_0 => u1_0 | .ret r => r)
theorem leastX_calls (g0 : Value) (first : Int) (l : List Int) (w : World) (r0 : Reads w g0 1 l encI 0)  : Calls Tryd.prog 51 #[iv first, g0] w fun e w' => e = .returned (iv (leastX first l)) ∧ Below w.heap.size w w' := by
 refine CW tt_ok [g0] 1 [.s (.int .i64 first), .s (.ref 0)] [(0, .sl .ro 3 1 l encI 0)] 1 Tryd.func51 rfl rfl rfl (by simp [r0.one]) ⟨ro_in r0, trivial⟩ ?_
 have hl0 := Reads.len r0
 refine WSA tt_ok ?_
 refine WP_seq (WSA tt_ok ?_)
 refine WP_loopA (ρ := Int) (leastX_c1 first l) (leastX_b1 first l) l.length first (fun k : Nat => (k : Int)) (fun (ci : Int) (zz : Int) => ⟨18, [(9, [], .s (.int .i64 ci)), (8, [], .s (.int .i64 (l.length : Int))), (7, [], .s (.ref 0)), (0, [], .s (.int .i64 zz))], [(0, .sl .ro 3 1 l encI 0)], 1, []⟩) (fun zz : Int => ⟨18, [(0, [], .s (.int .i64 zz))], [(0, .sl .ro 3 1 l encI 0)], 1, []⟩) (fun k zz => True) trivial ⟨0, rfl, Le_sel (ts := [9, 8, 7, 0]) (ids := [0]) (nx := 1) (by kernel_rfl)⟩ ?_ ?_
 ·intro k1 v1_1 hn1 hp1 hi1 Q1 hq1 ho1
  refine WSA tt_ok ?_
  refine WP_seq (WP_cond (decide ((k1 : Int) < (l.length : Int))) (by kernel_rfl) (fun hc1 => ?_) (fun hc1 => ?_))
  rotate_left
  ·refine WP_exit ?_
   show Q1 (.exit 0) _
   exact LA_exit hq1 v1_1 (loopR_end hi1 hc1) ⟨k1, hn1, hp1⟩ (Le_sel (ts := [0]) (ids := [0]) (nx := 1) (by kernel_rfl))
  have hc1' := of_decide_eq_true hc1
  have hk1 : k1 < l.length := by omega
  refine WP_skip ?_
  refine WP_seq (WP_block ?_)
  refine WP_seq (WP_region (IX tt_ok (k1 : Int) l.length [] (by kernel_rfl) (fun hG => ⟨by omega, by omega⟩) ?_))
  refine WPA tt_ok ?_
  refine WRA tt_ok ?_
  refine WRA tt_ok ?_
  show Q1 .normal _
  exact LA_go hq1 (ci := IntKind.i64.wrap ((k1 : Int) + 1)) (mn v1_1 (l.getD k1 0)) hk1 (by show _ = ((k1 + 1 : Nat) : Int); rw [wrapI (by omega) (by omega)]; omega) (loopR_go hi1 hk1 hc1 (rfl)) trivial (Le_sel (ts := [9, 8, 7, 0]) (ids := [0]) (nx := 1) (by kernel_rfl))
 intro u1_0 hR1 hP1 s' hl
 refine WP_le hl ?_
 clear hl s'
 refine WSA tt_ok ?_
 refine WP_ret ?_
 exact ⟨.s (.int .i64 u1_0), by kernel_rfl, fun nV w' h => ⟨by rw [show leastX first l = u1_0 from by unfold leastX; simp only [hR1, cond_true, cond_false]]; rfl, h.bel⟩⟩
def checkX_c1 (b : XBook) (k1 : Nat) : Bool → Bool := fun v1_1 => decide ((k1 : Int) < (b.trips.length : Int))
def checkX_b1 (b : XBook) (k1 : Nat) : Bool → Bd Bool Int := fun v1_1 => .go ((v1_1 && (isLoadX (b.trips.getD k1 zTrip).load)) && (isMinuteX (b.trips.getD k1 zTrip).ready))
def checkX (b : XBook) : Int :=
 (match loopR (checkX_c1 b) (checkX_b1 b) b.trips.length 0 (((((((checkL b.lan) == 0) && ((checkW b.fw) == 0)) && (withinX b.each 1 60)) && (isShoreX b.shore)) && (withinX b.turn 0 30)) && (withinX (b.trips.length : Int) 1 4)) with | .brk u1_0 => (bif !u1_0 then 90 else 0) | .ret r => r)
theorem checkX_calls (g0 g1 g2 g3 g4 : Value) (b : XBook) (w : World) (r0 : Reads w g0 2 b.lan.tides encSpan zSpan) (r1 : Reads w g1 3 b.lan.sounds encSound zSound) (r2 : Reads w g2 5 b.fw.ships encShip zShip) (r3 : Reads w g3 4 b.fw.sights encSight zSight) (r4 : Reads w g4 2 b.trips encTrip zTrip)  : Calls Tryd.prog 39 #[.agg ((xV g0 b g1 g2 g3 g4).toArray)] w fun e w' => e = .returned (iv (checkX b)) ∧ Below w.heap.size w w' := by
 refine CW tt_ok [g0, g1, g2, g3, g4] 5 [.g (xQ b)] (roX b []) 5 Tryd.func39 rfl rfl rfl (by simp [r0.one, r1.one, r2.one, r3.one, r4.one]) ⟨ro_in r0, ro_in r1, ro_in r2, ro_in r3, ro_in r4, trivial⟩ ?_
 have hl0 := Reads.len r0
 have hl1 := Reads.len r1
 have hl2 := Reads.len r2
 have hl3 := Reads.len r3
 have hl4 := Reads.len r4
 refine WSA tt_ok ?_
 refine WSR tt_ok 2 ?_
 refine CAL 43 [.g (lR b.lan)] (.s (.int .i64 (checkL b.lan))) [] (fun hG nV w h => checkL_calls (nV 0) (nV 1) b.lan w (h.rd 0 24) (h.rd 1 112) ) ?_
 refine WPO_run tt_ok 4 (by kernel_rfl) ?_
 refine CAL 44 [.g [.ref 2, .int .i64 b.fw.hear.lo, .int .i64 b.fw.hear.hi, .int .i64 b.fw.br, .int .i64 b.fw.cr, .int .i64 b.fw.sl, .ref 3]] (.s (.int .i64 (checkW b.fw))) [((checkL b.lan) == 0, true)] (fun _ nV w h => Check_calls (nV 2) (nV 3) b.fw w ⟨h.reads (id := 2) (kd := .ro) (e := 103) (by kernel_rfl), h.reads (id := 3) (kd := .ro) (e := 105) (by kernel_rfl)⟩) ?_
 refine WPO_run tt_ok 5 (by kernel_rfl) ?_
 refine CAL 60 [.s (.int .i64 b.each), .s (.int .i64 1), .s (.int .i64 60)] (.s (.bool (withinX b.each 1 60))) [(((checkL b.lan) == 0) && ((checkW b.fw) == 0), true)] (fun hG nV w h => withinX_calls  b.each 1 60 w  ) ?_
 refine WPO_run tt_ok 4 (by kernel_rfl) ?_
 refine CAL 46 [.s (.int .i64 b.shore)] (.s (.bool (isShoreX b.shore))) [((((checkL b.lan) == 0) && ((checkW b.fw) == 0)) && (withinX b.each 1 60), true)] (fun hG nV w h => isShoreX_calls  b.shore w  ) ?_
 refine WPO_run tt_ok 4 (by kernel_rfl) ?_
 refine CAL 60 [.s (.int .i64 b.turn), .s (.int .i64 0), .s (.int .i64 30)] (.s (.bool (withinX b.turn 0 30))) [(((((checkL b.lan) == 0) && ((checkW b.fw) == 0)) && (withinX b.each 1 60)) && (isShoreX b.shore), true)] (fun hG nV w h => withinX_calls  b.turn 0 30 w  ) ?_
 refine WPO_run tt_ok 5 (by kernel_rfl) ?_
 refine CAL 60 [.s (.int .i64 (b.trips.length : Int)), .s (.int .i64 1), .s (.int .i64 4)] (.s (.bool (withinX (b.trips.length : Int) 1 4))) [((((((checkL b.lan) == 0) && ((checkW b.fw) == 0)) && (withinX b.each 1 60)) && (isShoreX b.shore)) && (withinX b.turn 0 30), true)] (fun hG nV w h => withinX_calls  (b.trips.length : Int) 1 4 w  ) ?_
 refine WPA tt_ok ?_
 refine WP_seq (WSA tt_ok ?_)
 refine WP_loopA (ρ := Int) (checkX_c1 b) (checkX_b1 b) b.trips.length (((((((checkL b.lan) == 0) && ((checkW b.fw) == 0)) && (withinX b.each 1 60)) && (isShoreX b.shore)) && (withinX b.turn 0 30)) && (withinX (b.trips.length : Int) 1 4)) (fun k : Nat => (k : Int)) (fun (ci : Int) (zz : Bool) => ⟨58, [(40, [], .s (.int .i64 ci)), (39, [], .s (.int .i64 (b.trips.length : Int))), (38, [], .s (.ref 4)), (3, [], .s (.bool zz))], ((5, .box 37 (xQ b)) :: (roX b [])), 6, []⟩) (fun zz : Bool => ⟨58, [(3, [], .s (.bool zz))], ((5, .box 37 (xQ b)) :: (roX b [])), 6, []⟩) (fun k zz => True) trivial ⟨0, rfl, Le_sel (ts := [40, 39, 38, 3]) (ids := [5, 0, 1, 2, 3, 4]) (nx := 6) (by kernel_rfl)⟩ ?_ ?_
 ·intro k1 v1_1 hn1 hp1 hi1 Q1 hq1 ho1
  refine WSA tt_ok ?_
  refine WP_seq (WP_cond (decide ((k1 : Int) < (b.trips.length : Int))) (by kernel_rfl) (fun hc1 => ?_) (fun hc1 => ?_))
  rotate_left
  ·refine WP_exit ?_
   show Q1 (.exit 0) _
   exact LA_exit hq1 v1_1 (loopR_end hi1 hc1) ⟨k1, hn1, hp1⟩ (Le_sel (ts := [3]) (ids := [5, 0, 1, 2, 3, 4]) (nx := 6) (by kernel_rfl))
  have hc1' := of_decide_eq_true hc1
  have hk1 : k1 < b.trips.length := by omega
  refine WP_skip ?_
  refine WP_seq (WP_block ?_)
  refine WP_seq (WP_region (IX tt_ok (k1 : Int) b.trips.length [] (by kernel_rfl) (fun hG => ⟨by omega, by omega⟩) ?_))
  refine WPA tt_ok ?_
  refine WP_region (WPO_run tt_ok 4 (by kernel_rfl) ?_)
  refine CAL 47 [.s (.int .i64 (b.trips.getD k1 zTrip).load)] (.s (.bool (isLoadX (b.trips.getD k1 zTrip).load))) [(v1_1, true)] (fun hG nV w h => isLoadX_calls  (b.trips.getD k1 zTrip).load w  ) ?_
  refine WPO_run tt_ok 4 (by kernel_rfl) ?_
  refine CAL 48 [.s (.int .i64 (b.trips.getD k1 zTrip).ready)] (.s (.bool (isMinuteX (b.trips.getD k1 zTrip).ready))) [(v1_1 && (isLoadX (b.trips.getD k1 zTrip).load), true)] (fun hG nV w h => isMinuteX_calls  (b.trips.getD k1 zTrip).ready w  ) ?_
  refine WPA tt_ok ?_
  refine WRA tt_ok ?_
  show Q1 .normal _
  exact LA_go hq1 (ci := IntKind.i64.wrap ((k1 : Int) + 1)) ((v1_1 && (isLoadX (b.trips.getD k1 zTrip).load)) && (isMinuteX (b.trips.getD k1 zTrip).ready)) hk1 (by show _ = ((k1 + 1 : Nat) : Int); rw [wrapI (by omega) (by omega)]; omega) (loopR_go hi1 hk1 hc1 (rfl)) trivial (Le_sel (ts := [40, 39, 38, 3]) (ids := [5, 0, 1, 2, 3, 4]) (nx := 6) (by kernel_rfl))
 intro u1_0 hR1 hP1 s' hl
 refine WP_le hl ?_
 clear hl s'
 refine WP_seq (WSA tt_ok ?_)
 refine WP_cond (!u1_0) (by kernel_rfl) (fun hc3 => ?_) (fun hc3 => ?_)
 ·have hc3' := hc3; try simp only [bfs, ne_eq] at hc3'
  refine WSA tt_ok ?_
  refine WP_ret ?_
  exact ⟨.s (.int .i64 90), by kernel_rfl, fun nV w' h => ⟨by rw [show checkX b = 90 from by unfold checkX; simp only [hR1, hc3, cond_true, cond_false]]; rfl, h.bel⟩⟩
 have hc3' := hc3; try simp only [bfs, ne_eq] at hc3'
 refine WP_skip ?_
 refine WSA tt_ok ?_
 refine WP_ret ?_
 exact ⟨.s (.int .i64 0), by kernel_rfl, fun nV w' h => ⟨by rw [show checkX b = 0 from by unfold checkX; simp only [hR1, hc3, cond_true, cond_false]]; rfl, h.bel⟩⟩
def neverX  : (Int × Int) :=
 (0, 0)
theorem neverX_calls   (w : World)   : Calls Tryd.prog 77 #[] w fun e w' => e = .returned (.agg #[iv neverX.1, iv neverX.2]) ∧ Below w.heap.size w w' := by
 refine C0 tt_ok [] Tryd.func77 rfl rfl rfl ?_
 refine WSA tt_ok ?_
 refine WSA tt_ok ?_
 refine WSA tt_ok ?_
 refine WP_ret ?_
 exact ⟨.g [.int .i64 0, .int .i64 0], by kernel_rfl, fun nV w' h => ⟨by rw [show neverX = (0, 0) from rfl]; rfl, h.bel⟩⟩
def leavesX (b : XBook) (p : (Int × Int)) : (Int × Int) :=
 p
theorem leavesX_calls (g0 g1 g2 g3 g4 : Value) (gm : Nat) (b : XBook) (p : (Int × Int)) (w : World) (r0 : Reads w g0 2 b.lan.tides encSpan zSpan) (r1 : Reads w g1 3 b.lan.sounds encSound zSound) (r2 : Reads w g2 5 b.fw.ships encShip zShip) (r3 : Reads w g3 4 b.fw.sights encSight zSight) (r4 : Reads w g4 2 b.trips encTrip zTrip)  : Calls Tryd.prog 135 #[.agg ((lanV g0 b.lan [g1, g2, iv b.fw.hear.lo, iv b.fw.hear.hi, iv b.fw.br, iv b.fw.cr, iv b.fw.sl, g3, iv b.each, iv b.shore, iv b.turn, g4, .map (some gm)]).toArray), .agg #[iv p.1, iv p.2]] w fun e w' => e = .returned (.agg #[iv (leavesX b p).1, iv (leavesX b p).2]) ∧ Below w.heap.size w w' := by
 refine CW tt_ok [g0, g1, g2, g3, g4] 5 [.g (xR b gm), .g [.int .i64 p.1, .int .i64 p.2]] (roX b []) 5 Tryd.func135 rfl rfl rfl (by simp [r0.one, r1.one, r2.one, r3.one, r4.one]) ⟨ro_in r0, ro_in r1, ro_in r2, ro_in r3, ro_in r4, trivial⟩ ?_
 have hl0 := Reads.len r0
 have hl1 := Reads.len r1
 have hl2 := Reads.len r2
 have hl3 := Reads.len r3
 have hl4 := Reads.len r4
 refine WSA tt_ok ?_
 refine WSA tt_ok ?_
 refine WP_ret ?_
 exact ⟨.g [.int .i64 p.1, .int .i64 p.2], by kernel_rfl, fun nV w' h => ⟨by rw [show leavesX b p = p from rfl]; rfl, h.bel⟩⟩
def arrivesX (b : XBook) (p : (Int × Int)) : (Int × Int) :=
 (⟨IntKind.i64.wrap (1 - p.1), IntKind.i64.wrap (p.2 + b.fw.cr)⟩ : (Int × Int))
theorem arrivesX_calls (g0 g1 g2 g3 g4 : Value) (gm : Nat) (b : XBook) (p : (Int × Int)) (w : World) (r0 : Reads w g0 2 b.lan.tides encSpan zSpan) (r1 : Reads w g1 3 b.lan.sounds encSound zSound) (r2 : Reads w g2 5 b.fw.ships encShip zShip) (r3 : Reads w g3 4 b.fw.sights encSight zSight) (r4 : Reads w g4 2 b.trips encTrip zTrip)  : Calls Tryd.prog 88 #[.agg ((lanV g0 b.lan [g1, g2, iv b.fw.hear.lo, iv b.fw.hear.hi, iv b.fw.br, iv b.fw.cr, iv b.fw.sl, g3, iv b.each, iv b.shore, iv b.turn, g4, .map (some gm)]).toArray), .agg #[iv p.1, iv p.2]] w fun e w' => e = .returned (.agg #[iv (arrivesX b p).1, iv (arrivesX b p).2]) ∧ Below w.heap.size w w' := by
 refine CW tt_ok [g0, g1, g2, g3, g4] 5 [.g (xR b gm), .g [.int .i64 p.1, .int .i64 p.2]] (roX b []) 5 Tryd.func88 rfl rfl rfl (by simp [r0.one, r1.one, r2.one, r3.one, r4.one]) ⟨ro_in r0, ro_in r1, ro_in r2, ro_in r3, ro_in r4, trivial⟩ ?_
 have hl0 := Reads.len r0
 have hl1 := Reads.len r1
 have hl2 := Reads.len r2
 have hl3 := Reads.len r3
 have hl4 := Reads.len r4
 refine WSA tt_ok ?_
 refine WSA tt_ok ?_
 refine WP_ret ?_
 exact ⟨.g [.int .i64 (IntKind.i64.wrap (1 - p.1)), .int .i64 (IntKind.i64.wrap (p.2 + b.fw.cr))], by kernel_rfl, fun nV w' h => ⟨by rw [show arrivesX b p = (⟨IntKind.i64.wrap (1 - p.1), IntKind.i64.wrap (p.2 + b.fw.cr)⟩ : (Int × Int)) from rfl]; rfl, h.bel⟩⟩
def landsX (b : XBook) (p : (Int × Int)) (load : Int) : Int :=
 (landsL b.lan p.1 (IntKind.i64.wrap (Int.tdiv p.2 b.each)) load).1
theorem landsX_calls (g0 g1 g2 g3 g4 : Value) (gm : Nat) (b : XBook) (p : (Int × Int)) (load : Int) (w : World) (r0 : Reads w g0 2 b.lan.tides encSpan zSpan) (r1 : Reads w g1 3 b.lan.sounds encSound zSound) (r2 : Reads w g2 5 b.fw.ships encShip zShip) (r3 : Reads w g3 4 b.fw.sights encSight zSight) (r4 : Reads w g4 2 b.trips encTrip zTrip) (hun : UnknownAt w) (hnw0 : NowhereAt w) (hla : LAsksAt w) (he : 1 ≤ b.each) : Calls Tryd.prog 78 #[.agg ((lanV g0 b.lan [g1, g2, iv b.fw.hear.lo, iv b.fw.hear.hi, iv b.fw.br, iv b.fw.cr, iv b.fw.sl, g3, iv b.each, iv b.shore, iv b.turn, g4, .map (some gm)]).toArray), .agg #[iv p.1, iv p.2], iv load] w fun e w' => e = .returned (iv (landsX b p load)) ∧ Below w.heap.size w w' := by
 refine CW tt_ok [g0, g1, g2, g3, g4] 5 [.g (xR b gm), .g [.int .i64 p.1, .int .i64 p.2], .s (.int .i64 load)] (roX b [(5, .pf UnknownAt (· = 4)), (6, .pf NowhereAt (· = 3)), (7, .pf LAsksAt (· = 1))]) 8 Tryd.func78 rfl rfl rfl (by simp [r0.one, r1.one, r2.one, r3.one, r4.one]) ⟨ro_in r0, ro_in r1, ro_in r2, ro_in r3, ro_in r4, pf_in hun, pf_in hnw0, pf_in hla, trivial⟩ ?_
 have hl0 := Reads.len r0
 have hl1 := Reads.len r1
 have hl2 := Reads.len r2
 have hl3 := Reads.len r3
 have hl4 := Reads.len r4
 refine WSA tt_ok ?_
 refine WP_seq (WP_draw (by kernel_rfl) (by kernel_rfl) ?_)
 refine WPQ_run tt_ok 10 (by kernel_rfl) ?_
 refine QBIN .quo 3 (.tmp 16) (.tmp 19) (.s (.int .i64 p.2)) (.s (.int .i64 b.each)) (.s (.int .i64 (IntKind.i64.wrap (Int.tdiv p.2 b.each)))) [] (by kernel_rfl) (by kernel_rfl) (by kernel_rfl) (fun _ => BinOk_quo (by omega)) ?_
 refine WPQ_run tt_ok 1 (by kernel_rfl) ?_
 refine QCALL 54 [.g (lR b.lan), .s (.int .i64 p.1), .s (.int .i64 (IntKind.i64.wrap (Int.tdiv p.2 b.each))), .s (.int .i64 load)] (.t [(false, [.int .i64 (landsL b.lan p.1 (IntKind.i64.wrap (Int.tdiv p.2 b.each)) load).1]), (false, [.int .i64 (landsL b.lan p.1 (IntKind.i64.wrap (Int.tdiv p.2 b.each)) load).2])]) [] (by kernel_rfl) (goes_of (by kernel_rfl)) (by kernel_rfl) (by kernel_rfl) (fun hG nV w h => landsL_calls (nV 0) (nV 1) b.lan p.1 (IntKind.i64.wrap (Int.tdiv p.2 b.each)) load w (h.rd 0 24) (h.rd 1 112) (h.ft 5 4) (h.ft 6 3) (h.ft 7 1) ) ?_
 refine WPQ_all tt_ok (by kernel_rfl) ?_
 refine WSA tt_ok ?_
 refine WP_ret ?_
 exact ⟨.s (.int .i64 (landsL b.lan p.1 (IntKind.i64.wrap (Int.tdiv p.2 b.each)) load).1), by kernel_rfl, fun nV w' h => ⟨by rw [show landsX b p load = (landsL b.lan p.1 (IntKind.i64.wrap (Int.tdiv p.2 b.each)) load).1 from rfl]; rfl, h.bel⟩⟩
def SidesAt (w : World) : Prop := w.heap[0]? = some (.cells #[.func (.func 135) #[] #[], .func (.func 88) #[] #[]] 123 (0, 0))
def shoresX (b : XBook) (p : (Int × Int)) (load : Int) : (Int × Int) :=
 ((landsX b (leavesX b p) load), (landsX b (arrivesX b p) load))
theorem shoresX_calls (g0 g1 g2 g3 g4 : Value) (gm : Nat) (b : XBook) (p : (Int × Int)) (load : Int) (w : World) (r0 : Reads w g0 2 b.lan.tides encSpan zSpan) (r1 : Reads w g1 3 b.lan.sounds encSound zSound) (r2 : Reads w g2 5 b.fw.ships encShip zShip) (r3 : Reads w g3 4 b.fw.sights encSight zSight) (r4 : Reads w g4 2 b.trips encTrip zTrip) (hun : UnknownAt w) (hnw0 : NowhereAt w) (hla : LAsksAt w) (hsd : SidesAt w) (he : 1 ≤ b.each) : Calls Tryd.prog 50 #[.agg ((lanV g0 b.lan [g1, g2, iv b.fw.hear.lo, iv b.fw.hear.hi, iv b.fw.br, iv b.fw.cr, iv b.fw.sl, g3, iv b.each, iv b.shore, iv b.turn, g4, .map (some gm)]).toArray), .agg #[iv p.1, iv p.2], iv load] w fun e w' => e = .returned (.agg #[iv (shoresX b p load).1, iv (shoresX b p load).2]) ∧ Below w.heap.size w w' := by
 refine CW tt_ok [g0, g1, g2, g3, g4] 5 [.g (xR b gm), .g [.int .i64 p.1, .int .i64 p.2], .s (.int .i64 load)] (roX b [(5, .pf UnknownAt (· = 4)), (6, .pf NowhereAt (· = 3)), (7, .pf LAsksAt (· = 1)), (8, .pf SidesAt (· = 0))]) 9 Tryd.func50 rfl rfl rfl (by simp [r0.one, r1.one, r2.one, r3.one, r4.one]) ⟨ro_in r0, ro_in r1, ro_in r2, ro_in r3, ro_in r4, pf_in hun, pf_in hnw0, pf_in hla, pf_in hsd, trivial⟩ ?_
 have hl0 := Reads.len r0
 have hl1 := Reads.len r1
 have hl2 := Reads.len r2
 have hl3 := Reads.len r3
 have hl4 := Reads.len r4
 refine WSA tt_ok ?_
 refine WP_seq (WP_region (CAL 77 [] (.g [.int .i64 neverX.1, .int .i64 neverX.2]) [] (fun hG nV w h => neverX_calls   w  ) ?_))
 refine WPA tt_ok ?_
 refine WP_seq (WP_seq (WP_region (LDG tt_ok 123 0 (some 11) [.v (.func (.func 135) #[] #[]), .v (.func (.func 88) #[] #[])] 123 (.g [.v (.func (.func 135) #[] #[]), .v (.func (.func 88) #[] #[])]) (by kernel_rfl) (by kernel_rfl) (by kernel_rfl) (fun n w h => (h.fu 8 0 SidesAt)) (by kernel_rfl) ?_)))
 refine WPA tt_ok ?_
 refine WP_block (WP_loop (σ := Nat) (fun zz => match zz with | 0 => ⟨27, [(12, [], .s (.int .i64 0)), (11, [], .g [.v (.func (.func 135) #[] #[]), .v (.func (.func 88) #[] #[])]), (7, [], .s (.p 12 0)), (6, [], .s (.p 11 0)), (4, [], .s (.p 10 0)), (3, [], .s (.p 9 0)), (2, [], .s (.int .i64 load))], ((12, .box 83 [.int .i64 neverX.1, .int .i64 neverX.2]) :: (11, .box 83 [.int .i64 0, .int .i64 0]) :: (10, .box 86 [.int .i64 p.1, .int .i64 p.2]) :: (9, .box 78 (xR b gm)) :: (roX b [(5, .pf UnknownAt (· = 4)), (6, .pf NowhereAt (· = 3)), (7, .pf LAsksAt (· = 1)), (8, .pf SidesAt (· = 0))])), 13, []⟩ | 1 => ⟨27, [(12, [], .s (.int .i64 1)), (11, [], .g [.v (.func (.func 135) #[] #[]), .v (.func (.func 88) #[] #[])]), (7, [], .s (.p 12 0)), (6, [], .s (.p 11 0)), (4, [], .s (.p 10 0)), (3, [], .s (.p 9 0)), (2, [], .s (.int .i64 load))], ((12, .box 83 [.int .i64 (landsX b (leavesX b p) load), .int .i64 neverX.2]) :: (11, .box 83 [.int .i64 0, .int .i64 0]) :: (10, .box 86 [.int .i64 p.1, .int .i64 p.2]) :: (9, .box 78 (xR b gm)) :: (roX b [(5, .pf UnknownAt (· = 4)), (6, .pf NowhereAt (· = 3)), (7, .pf LAsksAt (· = 1)), (8, .pf SidesAt (· = 0))])), 13, []⟩ | _ => ⟨27, [(12, [], .s (.int .i64 2)), (11, [], .g [.v (.func (.func 135) #[] #[]), .v (.func (.func 88) #[] #[])]), (7, [], .s (.p 12 0)), (6, [], .s (.p 11 0)), (4, [], .s (.p 10 0)), (3, [], .s (.p 9 0)), (2, [], .s (.int .i64 load))], ((12, .box 83 [.int .i64 (landsX b (leavesX b p) load), .int .i64 (landsX b (arrivesX b p) load)]) :: (11, .box 83 [.int .i64 0, .int .i64 0]) :: (10, .box 86 [.int .i64 p.1, .int .i64 p.2]) :: (9, .box 78 (xR b gm)) :: (roX b [(5, .pf UnknownAt (· = 4)), (6, .pf NowhereAt (· = 3)), (7, .pf LAsksAt (· = 1)), (8, .pf SidesAt (· = 0))])), 13, []⟩) (fun zz => zz ≤ 2) (fun zz => 2 - zz) 0 (by decide) (Le_sel (ts := [12, 11, 7, 6, 4, 3, 2]) (ids := [12, 11, 10, 9, 0, 1, 2, 3, 4, 5, 6, 7, 8]) (nx := 13) (by kernel_rfl)) ?_)
 intro kU hkU
 rcases (show kU = 0 ∨ kU = 1 ∨ kU = 2 by omega) with rfl | rfl | rfl
 ·show WP Tryd.prog _ ⟨27, [(12, [], .s (.int .i64 0)), (11, [], .g [.v (.func (.func 135) #[] #[]), .v (.func (.func 88) #[] #[])]), (7, [], .s (.p 12 0)), (6, [], .s (.p 11 0)), (4, [], .s (.p 10 0)), (3, [], .s (.p 9 0)), (2, [], .s (.int .i64 load))], ((12, .box 83 [.int .i64 neverX.1, .int .i64 neverX.2]) :: (11, .box 83 [.int .i64 0, .int .i64 0]) :: (10, .box 86 [.int .i64 p.1, .int .i64 p.2]) :: (9, .box 78 (xR b gm)) :: (roX b [(5, .pf UnknownAt (· = 4)), (6, .pf NowhereAt (· = 3)), (7, .pf LAsksAt (· = 1)), (8, .pf SidesAt (· = 0))])), 13, []⟩ _ _
  refine WSA tt_ok ?_
  refine WP_seq (WP_cond (decide ((0 : Int) < 2)) (by kernel_rfl) (fun hc1 => ?_) (fun h => by cases h))
  refine WP_skip ?_
  refine WP_seq (WP_block ?_)
  refine WSA tt_ok ?_
  refine WP_drawHM 9 [] [12] (by kernel_rfl) (by kernel_rfl) ?_
  refine H_rn tt_ok [0, 1, 2, 3, 4, 6] ?_
  refine H_stp 5 fun hfz cx' hx1 hx2 => ?_
  refine CAL 135 [.g (xR b gm), .g [.int .i64 p.1, .int .i64 p.2]] (.g [.int .i64 (leavesX b p).1, .int .i64 (leavesX b p).2]) [] (fun hG nV w h => leavesX_calls (nV 0) (nV 1) (nV 2) (nV 3) (nV 4) gm b p w (h.rd 0 24) (h.rd 1 112) (h.rd 2 103) (h.rd 3 105) (h.rd 4 60) ) ?_
  refine WPE (hfz.fs [12, 11, 10, 9, 0, 1, 2, 3, 4, 5, 6, 7, 8]) ?_
  refine H_stp 7 fun hfz cx' hx1 hx2 => ?_
  refine CAL 78 [.g (xR b gm), .g [.int .i64 (leavesX b p).1, .int .i64 (leavesX b p).2], .s (.int .i64 load)] (.s (.int .i64 (landsX b (leavesX b p) load))) [] (fun hG nV w h => landsX_calls (nV 0) (nV 1) (nV 2) (nV 3) (nV 4) gm b (leavesX b p) load w (h.rd 0 24) (h.rd 1 112) (h.rd 2 103) (h.rd 3 105) (h.rd 4 60) (h.ft 5 4) (h.ft 6 3) (h.ft 7 1) (by first | assumption | omega)) ?_
  refine WPE (hfz.fs [12, 11, 10, 9, 0, 1, 2, 3, 4, 5, 6, 7, 8]) ?_
  refine H_AIXL tt_ok 8 0 2 [] (by kernel_rfl) (fun hG => by decide) (by kernel_rfl) (by kernel_rfl) ?_
  refine H_done (by kernel_rfl) ?_
  refine ⟨(by kernel_rfl), ?_⟩
  refine H_stp 9 fun hfz cx' hx1 hx2 => ?_
  refine WPA tt_ok ?_
  refine ⟨rfl, (hfz.fs [11, 10, 9, 0, 1, 2, 3, 4, 5, 6, 7, 8]), ?_⟩
  refine H_done (by kernel_rfl) ?_
  refine WRA tt_ok ?_
  exact ⟨1, by decide, by decide, Le_sel (ts := [12, 11, 7, 6, 4, 3, 2]) (ids := [12, 11, 10, 9, 0, 1, 2, 3, 4, 5, 6, 7, 8]) (nx := 13) (by kernel_rfl)⟩
 ·show WP Tryd.prog _ ⟨27, [(12, [], .s (.int .i64 1)), (11, [], .g [.v (.func (.func 135) #[] #[]), .v (.func (.func 88) #[] #[])]), (7, [], .s (.p 12 0)), (6, [], .s (.p 11 0)), (4, [], .s (.p 10 0)), (3, [], .s (.p 9 0)), (2, [], .s (.int .i64 load))], ((12, .box 83 [.int .i64 (landsX b (leavesX b p) load), .int .i64 neverX.2]) :: (11, .box 83 [.int .i64 0, .int .i64 0]) :: (10, .box 86 [.int .i64 p.1, .int .i64 p.2]) :: (9, .box 78 (xR b gm)) :: (roX b [(5, .pf UnknownAt (· = 4)), (6, .pf NowhereAt (· = 3)), (7, .pf LAsksAt (· = 1)), (8, .pf SidesAt (· = 0))])), 13, []⟩ _ _
  refine WSA tt_ok ?_
  refine WP_seq (WP_cond (decide ((1 : Int) < 2)) (by kernel_rfl) (fun hc2 => ?_) (fun h => by cases h))
  refine WP_skip ?_
  refine WP_seq (WP_block ?_)
  refine WSA tt_ok ?_
  refine WP_drawHM 9 [] [12] (by kernel_rfl) (by kernel_rfl) ?_
  refine H_rn tt_ok [0, 1, 2, 3, 4, 6] ?_
  refine H_stp 5 fun hfz cx' hx1 hx2 => ?_
  refine CAL 88 [.g (xR b gm), .g [.int .i64 p.1, .int .i64 p.2]] (.g [.int .i64 (arrivesX b p).1, .int .i64 (arrivesX b p).2]) [] (fun hG nV w h => arrivesX_calls (nV 0) (nV 1) (nV 2) (nV 3) (nV 4) gm b p w (h.rd 0 24) (h.rd 1 112) (h.rd 2 103) (h.rd 3 105) (h.rd 4 60) ) ?_
  refine WPE (hfz.fs [12, 11, 10, 9, 0, 1, 2, 3, 4, 5, 6, 7, 8]) ?_
  refine H_stp 7 fun hfz cx' hx1 hx2 => ?_
  refine CAL 78 [.g (xR b gm), .g [.int .i64 (arrivesX b p).1, .int .i64 (arrivesX b p).2], .s (.int .i64 load)] (.s (.int .i64 (landsX b (arrivesX b p) load))) [] (fun hG nV w h => landsX_calls (nV 0) (nV 1) (nV 2) (nV 3) (nV 4) gm b (arrivesX b p) load w (h.rd 0 24) (h.rd 1 112) (h.rd 2 103) (h.rd 3 105) (h.rd 4 60) (h.ft 5 4) (h.ft 6 3) (h.ft 7 1) (by first | assumption | omega)) ?_
  refine WPE (hfz.fs [12, 11, 10, 9, 0, 1, 2, 3, 4, 5, 6, 7, 8]) ?_
  refine H_AIXL tt_ok 8 1 2 [] (by kernel_rfl) (fun hG => by decide) (by kernel_rfl) (by kernel_rfl) ?_
  refine H_done (by kernel_rfl) ?_
  refine ⟨(by kernel_rfl), ?_⟩
  refine H_stp 9 fun hfz cx' hx1 hx2 => ?_
  refine WPA tt_ok ?_
  refine ⟨rfl, (hfz.fs [11, 10, 9, 0, 1, 2, 3, 4, 5, 6, 7, 8]), ?_⟩
  refine H_done (by kernel_rfl) ?_
  refine WRA tt_ok ?_
  exact ⟨2, by decide, by decide, Le_sel (ts := [12, 11, 7, 6, 4, 3, 2]) (ids := [12, 11, 10, 9, 0, 1, 2, 3, 4, 5, 6, 7, 8]) (nx := 13) (by kernel_rfl)⟩
 show WP Tryd.prog _ ⟨27, [(12, [], .s (.int .i64 2)), (11, [], .g [.v (.func (.func 135) #[] #[]), .v (.func (.func 88) #[] #[])]), (7, [], .s (.p 12 0)), (6, [], .s (.p 11 0)), (4, [], .s (.p 10 0)), (3, [], .s (.p 9 0)), (2, [], .s (.int .i64 load))], ((12, .box 83 [.int .i64 (landsX b (leavesX b p) load), .int .i64 (landsX b (arrivesX b p) load)]) :: (11, .box 83 [.int .i64 0, .int .i64 0]) :: (10, .box 86 [.int .i64 p.1, .int .i64 p.2]) :: (9, .box 78 (xR b gm)) :: (roX b [(5, .pf UnknownAt (· = 4)), (6, .pf NowhereAt (· = 3)), (7, .pf LAsksAt (· = 1)), (8, .pf SidesAt (· = 0))])), 13, []⟩ _ _
 refine WSA tt_ok ?_
 refine WP_seq (WP_cond (decide ((2 : Int) < 2)) (by kernel_rfl) (fun h => by cases h) (fun hc3 => ?_))
 refine WP_exit ?_
 refine WSA tt_ok ?_
 refine WP_ret ?_
 exact ⟨.g [.int .i64 (landsX b (leavesX b p) load), .int .i64 (landsX b (arrivesX b p) load)], by kernel_rfl, fun nV w' h => ⟨by rw [show shoresX b p load = ((landsX b (leavesX b p) load), (landsX b (arrivesX b p) load)) from rfl]; rfl, h.bel⟩⟩
end Go.Proofs.YtpfglknbkpcfnaaDoor.X
namespace Go.Proofs.YtpfglknbkpcfnaaDoor.Lw
open Go Go.RowKit Go.Proofs.YtpfglknbkpcfnaaDoor.Eng Go.Proofs.YtpfglknbkpcfnaaDoor.Fw
theorem filter_app {α : Type} (l : List Nat) (p : Nat → Bool) (f : Nat → α) : (l.flatMap fun i => bif p i then [f i] else []) = (l.filter p).map f := by
 induction l with
 | nil => rfl
 | cons x r ih => simp only [List.flatMap_cons, List.filter_cons]; cases p x <;> simp [ih]
def Asc (l : List Int) : Prop := l.Pairwise (· < ·)
theorem asc_filter0 (N : Nat) (p : Nat → Bool) : Asc (((List.range N).filter p).map fun i : Nat => (i : Int)) := by
 unfold Asc
 rw [List.pairwise_map]
 exact (List.pairwise_lt_range.filter p).imp fun h => by omega
theorem getD_eq {α : Type} {l : List α} {k : Nat} {z : α} (h : k < l.length) : l.getD k z = l[k] := by
 rw [List.getD_eq_getElem?_getD, List.getElem?_eq_getElem h]; rfl
theorem asc_get {l : List Int} (h : Asc l) {i j : Nat} (hij : i < j) (hj : j < l.length) : l.getD i 0 < l.getD j 0 := by
 rw [getD_eq (by omega), getD_eq hj]
 exact List.pairwise_iff_getElem.1 h i j (by omega) hj hij
def errF (b : Book) (ok : Bool) : Int := if checkW b = 0 then (if ok then (if isTrueF b [] then 0 else 42) else 41) else 40
theorem err_ok {b : Book} {ok : Bool} : errF b ok = 0 ↔ Valid b ∧ ok = true ∧ isTrueF b [] = true := by
 unfold errF
 rw [← check_valid]
 constructor
 ·intro h
  split at h
  ·split at h
   ·split at h
    ·exact ⟨‹_›, ‹_›, ‹_›⟩
    cases h
   cases h
  cases h
 rintro ⟨h1, h2, h3⟩
 rw [if_pos h1, if_pos h2, if_pos h3]
theorem err_cases (b : Book) (ok : Bool) : (errF b ok = 40 ∧ checkW b = 40) ∨ (checkW b = 0 ∧ ok = false ∧ errF b ok = 41) ∨ (checkW b = 0 ∧ ok = true ∧ isTrueF b [] = false ∧ errF b ok = 42) ∨ (checkW b = 0 ∧ ok = true ∧ isTrueF b [] = true ∧ errF b ok = 0) := by
 unfold errF
 rcases check_two b with h | h
 ·rw [if_pos h]
  cases ok
  ·right; left; exact ⟨h, rfl, rfl⟩
  cases ht : isTrueF b []
  ·right; right; left; exact ⟨h, rfl, rfl, rfl⟩
  right; right; right; exact ⟨h, rfl, rfl, rfl⟩
 left; rw [if_neg (by omega)]; exact ⟨rfl, h⟩
theorem ask_shape {α : Type} (b : Book) (ok : Bool) (z : α) (x : α × Int) : (bif (checkW b == 0) && ok then (bif (askT b) != 0 then (z, askT b) else x) else (bif (askN b) != 0 then (z, askN b) else (z, askN b))) = if errF b ok = 0 then x else (z, errF b ok) := by
 rcases err_cases b ok with ⟨h, h1⟩ | ⟨h1, rfl, h⟩ | ⟨h1, rfl, h2, h⟩ | ⟨h1, rfl, h2, h⟩
 ·rw [h]; simp [askN, h1]
 ·rw [h]; simp [askN, h1]
 ·rw [h]; simp [askT, h1, h2]
 rw [h]; simp [askT, h1, h2]
theorem rightA_eq (b : Book) : rightA b = if checkW b = 0 then (isTrueF b [], 0) else (false, 40) := by
 unfold rightA
 rcases check_two b with h | h <;> simp [h]
theorem clearA_eq (b : Book) (m : Int) : clearA b m = if errF b (withinF m 0 60) = 0 then (clearF b [] m, 0) else (0, errF b (withinF m 0 60)) := by
 unfold clearA; exact ask_shape _ _ _ _
theorem courses_ne {b : Book} (h : isTrueF b [] = true) {k : Nat} (hk : k < b.ships.length) : ∃ c, c ∈ coursesF b k [] := by
 have := List.all_eq_true.1 h k (List.mem_range.2 hk)
 exact List.exists_mem_of_ne_nil _ (of_decide_eq_true this)
theorem each_some {b : Book} (h : isTrueF b [] = true) {k : Nat} (hk : k < b.ships.length) {f n : Nat} (he : eachF b [] k f n = true) : someF b [] k f n = true := by
 obtain ⟨c, hc⟩ := courses_ne h hk
 exact List.any_eq_true.2 ⟨c, hc, List.all_eq_true.1 he c hc⟩
theorem near02_eq {b : Book} (h : isTrueF b [] = true) {k : Nat} (hk : k < b.ships.length) (f n : Nat) : near02 b [] k f n = if eachF b [] k f n then 2 else if someF b [] k f n then 1 else 0 := by
 unfold near02 near01
 cases he : eachF b [] k f n
 ·cases someF b [] k f n <;> rfl
 rw [each_some h hk he]; rfl
theorem clearF_eq {b : Book} (hv : Valid b) (h : isTrueF b [] = true) {m : Int} : clearF b [] m = if (List.range b.ships.length).all (fun k => !someF b [] k m.toNat (b.cr + b.sl).toNat) then 2 else if (List.range b.ships.length).all (fun k => !eachF b [] k m.toNat (b.cr + b.sl).toNat) then 1 else 0 := by
 unfold clearF
 have hn : ∀ k, k < b.ships.length → 0 ≤ near02 b [] k m.toNat (b.cr + b.sl).toNat ∧ near02 b [] k m.toNat (b.cr + b.sl).toNat ≤ 2 := fun k hk => by
  rw [near02_eq h hk]; split <;> (try split) <;> omega
 have hl : ∀ x y : Int, leastF x [y] = min x y := fun x y => by
  unfold leastF
  simp only [loopR, leastF_c1, leastF_b1, List.length_cons, List.length_nil]
  simp [mn]
  omega
 rw [loopR_foldl (fun k v => leastF v ([IntKind.i64.wrap (2 - (near02 b ([]) (k : Int).toNat m.toNat (b.cr + b.sl).toNat))])) (fun k v hk => by simp only [clearF_c1]; rw [decide_eq_true]; omega) (fun k v hk => by simp only [clearF_b1])]
 simp only
 have key : ∀ n, n ≤ b.ships.length → (List.range n).foldl (fun (v : Int) (k : Nat) => leastF v ([IntKind.i64.wrap (2 - (near02 b ([]) (k : Int).toNat m.toNat (b.cr + b.sl).toNat))])) (2 : Int) = if (List.range n).all (fun k => !someF b [] k m.toNat (b.cr + b.sl).toNat) then 2 else if (List.range n).all (fun k => !eachF b [] k m.toNat (b.cr + b.sl).toNat) then 1 else 0 := by
  intro n
  induction n with
  | zero => intro _; simp
  | succ n ih =>
   intro hn2
   have h1 := hn n (by omega)
   rw [List.range_succ, List.foldl_append, ih (by omega)]
   simp only [List.foldl_cons, List.foldl_nil, List.all_append, List.all_cons, List.all_nil, Bool.and_true, Int.toNat_natCast, hl]
   rw [wrapI (by omega) (by omega), near02_eq h (show n < b.ships.length by omega)]
   have hes := each_some h (show n < b.ships.length by omega) (f := m.toNat) (n := (b.cr + b.sl).toNat)
   have hAB : (List.range n).all (fun k => !someF b [] k m.toNat (b.cr + b.sl).toNat) = true → (List.range n).all (fun k => !eachF b [] k m.toNat (b.cr + b.sl).toNat) = true := fun hA => List.all_eq_true.2 fun k hk => by
    have h2 := List.all_eq_true.1 hA k hk
    cases hE : eachF b [] k m.toNat (b.cr + b.sl).toNat
    ·rfl
    rw [each_some h (by have := List.mem_range.1 hk; omega) hE] at h2; cases h2
   generalize (List.range n).all (fun k => !someF b [] k m.toNat (b.cr + b.sl).toNat) = A at hAB ⊢
   generalize (List.range n).all (fun k => !eachF b [] k m.toNat (b.cr + b.sl).toNat) = B at hAB ⊢
   generalize eachF b [] n m.toNat (b.cr + b.sl).toNat = E at hes ⊢
   generalize someF b [] n m.toNat (b.cr + b.sl).toNat = S at hes ⊢
   clear ih hl hn h1
   revert hAB hes
   cases A <;> cases B <;> cases E <;> cases S <;> decide
 exact key _ (Nat.le_refl _)
theorem foundF_eq (b : Book) (frm : Int) : foundF b [] frm = ((List.range 61).filter fun m : Nat => sureF b [] frm m).map fun m : Nat => (m : Int) := by
 unfold foundF
 rw [loopR_app (fun m : Nat => bif sureF b [] frm (m : Int) then [(m : Int)] else []) (fun k v hk => by simp only [foundF_c1]; rw [decide_eq_true]; omega) (fun k v hk => by simp only [foundF_b1]; cases sureF b [] frm (k : Int) <;> simp)]
 simp only [List.nil_append]
 exact filter_app _ _ _
theorem mem_foundF {b : Book} {frm x : Int} : x ∈ foundF b [] frm ↔ (0 ≤ x ∧ x ≤ 60) ∧ frm ≤ x ∧ clearF b [] x = 2 := by
 rw [foundF_eq]
 simp only [List.mem_map, List.mem_filter, List.mem_range, sureF, Bool.and_eq_true, decide_eq_true_eq, beq_iff_eq]
 constructor
 ·rintro ⟨m, ⟨h1, h2, h3⟩, rfl⟩; exact ⟨by omega, by omega, h3⟩
 rintro ⟨h1, h2, h3⟩
 refine ⟨x.toNat, ⟨by omega, ?_, ?_⟩, by omega⟩
 ·omega
 rw [Int.toNat_of_nonneg h1.1]; exact h3
theorem asc_foundF (b : Book) (frm : Int) : Asc (foundF b [] frm) := by rw [foundF_eq]; exact asc_filter0 _ _
theorem freeA_eq (b : Book) : freeA b = if errF b true = 0 then (foundF b [] 0, 0) else ([], errF b true) := by
 unfold freeA; exact ask_shape _ _ _ _
end Go.Proofs.YtpfglknbkpcfnaaDoor.Lw
namespace Go.Proofs.YtpfglknbkpcfnaaDoor.X
open Go Go.RowKit Go.Proofs.YtpfglknbkpcfnaaDoor.Eng Go.Proofs.YtpfglknbkpcfnaaDoor.Fw
structure Fr where (sh mi : Int) (is : Bool)
def fkKey (x : Fr) : Value := .agg #[iv x.sh, iv x.mi]
def fkVal (x : Fr) : Value := .bool x.is
def fkK (x : Fr) : Int × Int := (x.sh, x.mi)
abbrev fkIs (x : Fr) : Bool := x.is
def fkL (f : Book) : List Fr := (⟨-1, 0, false⟩ : Fr) :: ((freeA f).1.flatMap fun m => [(⟨0, m, true⟩ : Fr), ⟨1, m, true⟩])
theorem asc_free (f : Book) : Lw.Asc (freeA f).1 := by
 rw [Lw.freeA_eq]
 split
 ·exact Lw.asc_foundF f 0
 exact List.Pairwise.nil
theorem fr_fresh {l : List Int} (has : Lw.Asc l) {k1 k2 : Nat} {x : Fr} (h2 : (x.sh = -1 ∨ ∃ j : Nat, j < k1 ∧ x.mi = l.getD j 0) ∨ (x.mi = l.getD k1 0 ∧ x.sh < (k2 : Int))) (hk : k1 < l.length) (h : fkK x = ((k2 : Int), l.getD k1 0)) : False := by
 have h3 := congrArg Prod.fst h
 have h4 := congrArg Prod.snd h
 simp only [fkK] at h3 h4
 rcases h2 with (h2 | ⟨j, hj, h2⟩) | h2
 ·omega
 ·have := Lw.asc_get has hj hk; omega
 omega
theorem fr_next {l : List Int} {k1 c : Nat} {x : Fr} (h2 : (x.sh = -1 ∨ ∃ j : Nat, j < k1 ∧ x.mi = l.getD j 0) ∨ (x.mi = l.getD k1 0 ∧ x.sh < (c : Int))) : x.sh = -1 ∨ ∃ j : Nat, j < k1 + 1 ∧ x.mi = l.getD j 0 := by
 rcases h2 with (h2 | ⟨j, hj, h2⟩) | h2
 ·exact .inl h2
 ·exact .inr ⟨j, by omega, h2⟩
 exact .inr ⟨k1, by omega, h2.1⟩
theorem fr_more {l : List Int} {k1 k2 : Nat} {x : Fr} (h2 : (x.sh = -1 ∨ ∃ j : Nat, j < k1 ∧ x.mi = l.getD j 0) ∨ (x.mi = l.getD k1 0 ∧ x.sh < (k2 : Int))) : (x.sh = -1 ∨ ∃ j : Nat, j < k1 ∧ x.mi = l.getD j 0) ∨ (x.mi = l.getD k1 0 ∧ x.sh < ((k2 + 1 : Nat) : Int)) := by
 rcases h2 with h2 | h2
 ·exact .inl h2
 exact .inr ⟨h2.1, by omega⟩
def XNowhereAt (w : World) : Prop := w.heap[2]? = some (.cells #[iv (-1), iv 0] 86 (0, 0))
def openedX_c2 (b : XBook) (k1 : Nat) (v1_1 : List Fr) (k2 : Nat) : (List Fr) → Bool := fun v2_1 => decide ((k2 : Int) < 2)
def openedX_b2 (b : XBook) (k1 : Nat) (v1_1 : List Fr) (k2 : Nat) : (List Fr) → Bd (List Fr) (List Fr) := fun v2_1 => .go (v2_1 ++ [(⟨(k2 : Int), ((freeA b.fw).1.getD k1 0), true⟩ : Fr)])
def openedX_c1 (b : XBook) (k1 : Nat) : (List Fr) → Bool := fun v1_1 => decide ((k1 : Int) < ((freeA b.fw).1.length : Int))
def openedX_b1 (b : XBook) (k1 : Nat) : (List Fr) → Bd (List Fr) (List Fr) := fun v1_1 => (match loopR (openedX_c2 b k1 v1_1) (openedX_b2 b k1 v1_1) 2 0 v1_1 with | .brk u2_0 => .go u2_0 | .ret r => .ret r)
def openedX (b : XBook) : List Fr :=
 (match loopR (openedX_c1 b) (openedX_b1 b) (freeA b.fw).1.length 0 (([] : List Fr) ++ [(⟨-1, 0, false⟩ : Fr)]) with | .brk u1_0 => u1_0 | .ret r => r)
theorem openedX_calls (g0 g1 g2 g3 g4 : Value) (b : XBook) (w : World) (r0 : Reads w g0 2 b.lan.tides encSpan zSpan) (r1 : Reads w g1 3 b.lan.sounds encSound zSound) (r2 : Reads w g2 5 b.fw.ships encShip zShip) (r3 : Reads w g3 4 b.fw.sights encSight zSight) (r4 : Reads w g4 2 b.trips encTrip zTrip) (ha : AsksAt w) (hxn : XNowhereAt w) : Calls Tryd.prog 61 #[.agg ((xV g0 b g1 g2 g3 g4).toArray)] w fun e w' => ∃ gm, e = .returned (.agg ((lanV g0 b.lan [g1, g2, iv b.fw.hear.lo, iv b.fw.hear.hi, iv b.fw.br, iv b.fw.cr, iv b.fw.sl, g3, iv b.each, iv b.shore, iv b.turn, g4, .map (some gm)]).toArray)) ∧ Below w.heap.size w w' ∧ w.heap.size ≤ gm ∧ w'.heap[gm]? = some (.map (ents (openedX b) fkKey fkVal) (openedX b).length) := by
 refine CW tt_ok [g0, g1, g2, g3, g4] 5 [.g (xQ b)] (roX b [(5, .pf AsksAt (· = 5)), (6, .pf XNowhereAt (· = 2))]) 7 Tryd.func61 rfl rfl rfl (by simp [r0.one, r1.one, r2.one, r3.one, r4.one]) ⟨ro_in r0, ro_in r1, ro_in r2, ro_in r3, ro_in r4, pf_in ha, pf_in hxn, trivial⟩ ?_
 have hl0 := Reads.len r0
 have hl1 := Reads.len r1
 have hl2 := Reads.len r2
 have hl3 := Reads.len r3
 have hl4 := Reads.len r4
 have has := asc_free b.fw
 refine WSA tt_ok ?_
 refine WP_seq (WP_toX (σ := Nat) (fun gM1 => ⟨38, [(3, [], .s (.p 10 0)), (2, [], .s (.p 8 0)), (1, [], .s (.p 7 0))], ((10, .box 78 (xR b gM1)) :: (9, mapE gM1 (([] : List Fr) ++ [(⟨-1, 0, false⟩ : Fr)]) fkKey fkVal) :: (8, .box 78 zX) :: (7, .box 37 (xQ b)) :: (roX b [(5, .pf AsksAt (· = 5)), (6, .pf XNowhereAt (· = 2))])), 11, []⟩) ?_ ?_)
 ·refine WP_drawH [] (by kernel_rfl) (by kernel_rfl) ?_
  refine H_rn tt_ok [0] ?_
  refine H_LDG tt_ok 2 86 2 0 (some 11) [.int .i64 (-1), .int .i64 0] 86 (.g [.int .i64 (-1), .int .i64 0]) (by kernel_rfl) (by kernel_rfl) (by kernel_rfl) (fun _ nV w h => (h.fu 6 2 XNowhereAt)) (by kernel_rfl) (by kernel_rfl) (by kernel_rfl) ?_
  refine H_tw 1 6 (fun hfz cx' hx1 hx2 => ?_) (fun hfz cx' hx1 hx2 => ?_)
  ·refine MKMg (κ := Fr) fkKey fkVal (some 10) (by kernel_rfl) (fun _ => (by kernel_rfl)) (fun gM3 => ?_)
   refine WPE (hfz.fs [8, 7, 0, 1, 2, 3, 4, 5, 6]) ?_
   refine H_tw 3 6 (fun hfz cx' hx1 hx2 => ?_) (fun hfz cx' hx1 hx2 => ?_)
   ·refine INSg tt_ok ([] : List Fr) fkKey fkVal (⟨-1, 0, false⟩ : Fr) 9 gM3 86 (.g [.int .i64 (-1), .int .i64 0]) (.s (.bool false)) (by kernel_rfl) (by kernel_rfl) (fun _ => ⟨rfl, rfl⟩) (fun w => check_pairB (by kernel_rfl) _ _ w false) (fun w => find_pair_none (by kernel_rfl) _ _ fkK fkKey fkVal (fun _ => rfl) w _ (fun x hx => by cases hx)) ?_
    refine WPE (hfz.fs [8, 7, 0, 1, 2, 3, 4, 5, 6]) ?_
    refine H_rn tt_ok [4, 5] ?_
    refine H_stp 6 fun hfz cx' hx1 hx2 => ?_
    refine WPA tt_ok ?_
    refine ⟨rfl, (hfz.fs [8, 7, 0, 1, 2, 3, 4, 5, 6]), ?_⟩
    refine H_stp 7 fun hfz cx' hx1 hx2 => ?_
    refine WPA tt_ok ?_
    refine ⟨rfl, (hfz.fs [8, 7, 0, 1, 2, 3, 4, 5, 6]), ?_⟩
    refine H_done (by kernel_rfl) ?_
    exact ⟨gM3, Le_sel (ts := [3, 2, 1]) (ids := [10, 9, 8, 7, 0, 1, 2, 3, 4, 5, 6]) (nx := 11) (by kernel_rfl)⟩
   refine WPA tt_ok ?_
   refine ⟨rfl, (hfz.fs [8, 7, 0, 1, 2, 3, 4, 5, 6]), ?_⟩
   refine H_stp 3 fun hfz cx' hx1 hx2 => ?_
   refine INSg tt_ok ([] : List Fr) fkKey fkVal (⟨-1, 0, false⟩ : Fr) 9 gM3 86 (.g [.int .i64 (-1), .int .i64 0]) (.s (.bool false)) (by kernel_rfl) (by kernel_rfl) (fun _ => ⟨rfl, rfl⟩) (fun w => check_pairB (by kernel_rfl) _ _ w false) (fun w => find_pair_none (by kernel_rfl) _ _ fkK fkKey fkVal (fun _ => rfl) w _ (fun x hx => by cases hx)) ?_
   refine WPE (hfz.fs [8, 7, 0, 1, 2, 3, 4, 5, 6]) ?_
   refine H_rn tt_ok [4, 5] ?_
   refine H_stp 7 fun hfz cx' hx1 hx2 => ?_
   refine WPA tt_ok ?_
   refine ⟨rfl, (hfz.fs [8, 7, 0, 1, 2, 3, 4, 5, 6]), ?_⟩
   refine H_done (by kernel_rfl) ?_
   exact ⟨gM3, Le_sel (ts := [3, 2, 1]) (ids := [10, 9, 8, 7, 0, 1, 2, 3, 4, 5, 6]) (nx := 11) (by kernel_rfl)⟩
  refine WPA tt_ok ?_
  refine ⟨rfl, (hfz.fs [8, 7, 0, 1, 2, 3, 4, 5, 6]), ?_⟩
  refine H_stp 1 fun hfz cx' hx1 hx2 => ?_
  refine MKMg (κ := Fr) fkKey fkVal (some 10) (by kernel_rfl) (fun _ => (by kernel_rfl)) (fun gM4 => ?_)
  refine WPE (hfz.fs [8, 7, 0, 1, 2, 3, 4, 5, 6]) ?_
  refine H_stp 3 fun hfz cx' hx1 hx2 => ?_
  refine INSg tt_ok ([] : List Fr) fkKey fkVal (⟨-1, 0, false⟩ : Fr) 10 gM4 86 (.g [.int .i64 (-1), .int .i64 0]) (.s (.bool false)) (by kernel_rfl) (by kernel_rfl) (fun _ => ⟨rfl, rfl⟩) (fun w => check_pairB (by kernel_rfl) _ _ w false) (fun w => find_pair_none (by kernel_rfl) _ _ fkK fkKey fkVal (fun _ => rfl) w _ (fun x hx => by cases hx)) ?_
  refine WPE (hfz.fs [8, 7, 0, 1, 2, 3, 4, 5, 6]) ?_
  refine H_rn tt_ok [4, 5] ?_
  refine H_stp 7 fun hfz cx' hx1 hx2 => ?_
  refine WPA tt_ok ?_
  refine ⟨rfl, (hfz.fs [8, 7, 0, 1, 2, 3, 4, 5, 6]), ?_⟩
  refine H_done (by kernel_rfl) ?_
  exact ⟨gM4, Le_ren [(10, 9), (9, 10)] (by repeat (first | exact trivial | refine ⟨by kernel_rfl, ?_⟩)) ⟨by kernel_rfl, rfl, by kernel_rfl, by kernel_rfl, rfl, by kernel_rfl, by kernel_rfl, rfl, by kernel_rfl, trivial⟩ (by kernel_rfl) (by kernel_rfl) (rnm_id (m := 5) (by kernel_rfl)) (by show 5 ≤ 11; decide) (by kernel_rfl) (by kernel_rfl)⟩
 intro gM1
 refine WSR tt_ok 2 ?_
 refine CALLR 89 [.g [.ref 2, .int .i64 b.fw.hear.lo, .int .i64 b.fw.hear.hi, .int .i64 b.fw.br, .int .i64 b.fw.cr, .int .i64 b.fw.sl, .ref 3]] (.t [(false, [.ref 11]), (false, [.int .i64 (freeA b.fw).2])]) 3 1 (freeA b.fw).1 encI 0 11 (by kernel_rfl) (by kernel_rfl) (goes_of (by kernel_rfl)) (by kernel_rfl) (by kernel_rfl) (by decide) (fun _ => rfl) (fun nV w h => (freeA_calls (nV 2) (nV 3) b.fw w (h.rd 2 103) (h.rd 3 105) (h.ft 5 5) ).mono fun e w' h1 => weak_fresh h1) ?_
 refine WPA tt_ok ?_
 refine WP_seq (WSA tt_ok ?_)
 refine WP_fact (p := ((freeA b.fw).1.length : Int) ≤ 9223372036854775807) (fun nV aV wV hs => Reads.len (sz := 1) (enc := encI) (z := 0) (hs.heap.reads (id := 11) (kd := .ro) (e := 3) (by kernel_rfl))) (fun hN1 => ?_)
 refine WP_loopA (ρ := List Fr) (openedX_c1 b) (openedX_b1 b) (freeA b.fw).1.length (([] : List Fr) ++ [(⟨-1, 0, false⟩ : Fr)]) (fun k : Nat => (k : Int)) (fun (ci : Int) (zz : (List Fr)) => ⟨38, [(22, [], .s (.int .i64 ci)), (21, [], .s (.int .i64 ((freeA b.fw).1.length : Int))), (20, [], .s (.ref 11)), (3, [], .s (.p 10 0)), (2, [], .s (.p 8 0))], ((11, .sl .ro 3 1 (freeA b.fw).1 encI 0) :: (10, .box 78 (xR b gM1)) :: (9, mapE gM1 zz fkKey fkVal) :: (8, .box 78 zX) :: (7, .box 37 (xQ b)) :: (roX b [(5, .pf AsksAt (· = 5)), (6, .pf XNowhereAt (· = 2))])), 12, []⟩) (fun zz : (List Fr) => ⟨38, [(3, [], .s (.p 10 0)), (2, [], .s (.p 8 0))], ((11, .sl .ro 3 1 (freeA b.fw).1 encI 0) :: (10, .box 78 (xR b gM1)) :: (9, mapE gM1 zz fkKey fkVal) :: (8, .box 78 zX) :: (7, .box 37 (xQ b)) :: (roX b [(5, .pf AsksAt (· = 5)), (6, .pf XNowhereAt (· = 2))])), 12, []⟩) (fun (k1 : Nat) (zz : (List Fr)) => ∀ x ∈ zz, x.sh = -1 ∨ ∃ j : Nat, j < k1 ∧ x.mi = (freeA b.fw).1.getD j 0) (by intro x hx; simp at hx; subst hx; exact .inl rfl) ⟨0, rfl, Le_sel (ts := [22, 21, 20, 3, 2]) (ids := [11, 10, 9, 8, 7, 0, 1, 2, 3, 4, 5, 6]) (nx := 12) (by kernel_rfl)⟩ ?_ ?_
 ·intro k1 v1_1 hn1 hp1 hi1 Q1 hq1 ho1
  replace hp1 : ∀ x ∈ v1_1, x.sh = -1 ∨ ∃ j : Nat, j < k1 ∧ x.mi = (freeA b.fw).1.getD j 0 := hp1
  refine WSA tt_ok ?_
  refine WP_seq (WP_cond (decide ((k1 : Int) < ((freeA b.fw).1.length : Int))) (by kernel_rfl) (fun hc1 => ?_) (fun hc1 => ?_))
  rotate_left
  ·refine WP_exit ?_
   show Q1 (.exit 0) _
   exact LA_exit hq1 v1_1 (loopR_end hi1 hc1) ⟨k1, hn1, hp1⟩ (Le_sel (ts := [3, 2]) (ids := [11, 10, 9, 8, 7, 0, 1, 2, 3, 4, 5, 6]) (nx := 12) (by kernel_rfl))
  have hc1' := of_decide_eq_true hc1
  have hk1 : k1 < (freeA b.fw).1.length := by omega
  refine WP_skip ?_
  refine WP_seq (WP_block ?_)
  refine WP_seq (WP_region (IX tt_ok (k1 : Int) (freeA b.fw).1.length [] (by kernel_rfl) (fun hG => ⟨by omega, by omega⟩) ?_))
  refine WPA tt_ok ?_
  refine WP_seq (WP_region (CAL 77 [] (.g [.int .i64 neverX.1, .int .i64 neverX.2]) [] (fun hG nV w h => neverX_calls   w  ) ?_))
  refine WPA tt_ok ?_
  refine WP_loopA (ρ := List Fr) (openedX_c2 b k1 v1_1) (openedX_b2 b k1 v1_1) 2 v1_1 (fun k : Nat => (k : Int)) (fun (ci : Int) (zz : (List Fr)) => ⟨38, [(27, [], .s (.int .i64 ci)), (7, [], .s (.int .i64 ((freeA b.fw).1.getD k1 0))), (22, [], .s (.int .i64 (k1 : Int))), (21, [], .s (.int .i64 ((freeA b.fw).1.length : Int))), (20, [], .s (.ref 11)), (3, [], .s (.p 10 0)), (2, [], .s (.p 8 0))], ((11, .sl .ro 3 1 (freeA b.fw).1 encI 0) :: (10, .box 78 (xR b gM1)) :: (9, mapE gM1 zz fkKey fkVal) :: (8, .box 78 zX) :: (7, .box 37 (xQ b)) :: (roX b [(5, .pf AsksAt (· = 5)), (6, .pf XNowhereAt (· = 2))])), 12, []⟩) (fun zz : (List Fr) => ⟨38, [(22, [], .s (.int .i64 (k1 : Int))), (21, [], .s (.int .i64 ((freeA b.fw).1.length : Int))), (20, [], .s (.ref 11)), (3, [], .s (.p 10 0)), (2, [], .s (.p 8 0))], ((11, .sl .ro 3 1 (freeA b.fw).1 encI 0) :: (10, .box 78 (xR b gM1)) :: (9, mapE gM1 zz fkKey fkVal) :: (8, .box 78 zX) :: (7, .box 37 (xQ b)) :: (roX b [(5, .pf AsksAt (· = 5)), (6, .pf XNowhereAt (· = 2))])), 12, []⟩) (fun (k2 : Nat) (zz : (List Fr)) => ∀ x ∈ zz, (x.sh = -1 ∨ ∃ j : Nat, j < k1 ∧ x.mi = (freeA b.fw).1.getD j 0) ∨ (x.mi = (freeA b.fw).1.getD k1 0 ∧ x.sh < (k2 : Int))) (fun x hx => .inl (hp1 x hx)) ⟨0, rfl, Le_sel (ts := [27, 7, 22, 21, 20, 3, 2]) (ids := [11, 10, 9, 8, 7, 0, 1, 2, 3, 4, 5, 6]) (nx := 12) (by kernel_rfl)⟩ ?_ ?_
  ·intro k2 v2_1 hn2 hp2 hi2 Q2 hq2 ho2
   replace hp2 : ∀ x ∈ v2_1, (x.sh = -1 ∨ ∃ j : Nat, j < k1 ∧ x.mi = (freeA b.fw).1.getD j 0) ∨ (x.mi = (freeA b.fw).1.getD k1 0 ∧ x.sh < (k2 : Int)) := hp2
   refine WSA tt_ok ?_
   refine WP_seq (WP_cond (decide ((k2 : Int) < 2)) (by kernel_rfl) (fun hc2 => ?_) (fun hc2 => ?_))
   rotate_left
   ·refine WP_exit ?_
    show Q2 (.exit 2) _
    exact LA_exit hq2 v2_1 (loopR_end hi2 hc2) ⟨k2, hn2, hp2⟩ (Le_sel (ts := [22, 21, 20, 3, 2]) (ids := [11, 10, 9, 8, 7, 0, 1, 2, 3, 4, 5, 6]) (nx := 12) (by kernel_rfl))
   have hc2' := of_decide_eq_true hc2
   have hk2 : k2 < 2 := by omega
   refine WP_skip ?_
   refine WP_seq (WP_block ?_)
   refine WSA tt_ok ?_
   refine WP_region (WPO_run tt_ok 5 (by kernel_rfl) ?_)
   refine MUPg tt_ok v2_1 fkKey fkVal (⟨(k2 : Int), ((freeA b.fw).1.getD k1 0), true⟩ : Fr) 9 gM1 86 (.g [.int .i64 (k2 : Int), .int .i64 ((freeA b.fw).1.getD k1 0)]) (.s (.bool true)) (by kernel_rfl) (by kernel_rfl) (fun _ => ⟨rfl, rfl⟩) (fun w => check_pairB (by kernel_rfl) _ _ w false) (fun w => find_pair_none (by kernel_rfl) _ _ fkK fkKey fkVal (fun _ => rfl) w _ (fun x hx h => fr_fresh has (hp2 x hx) (by omega) h)) ?_
   refine WPO_nil ?_
   refine WRA tt_ok ?_
   show Q2 .normal _
   exact LA_go hq2 (ci := IntKind.i64.wrap ((k2 : Int) + 1)) (v2_1 ++ [(⟨(k2 : Int), ((freeA b.fw).1.getD k1 0), true⟩ : Fr)]) hk2 (by show _ = ((k2 + 1 : Nat) : Int); rw [wrapI (by omega) (by omega)]; omega) (loopR_go hi2 hk2 hc2 (rfl)) (fun x hx => (List.mem_append.1 hx).elim (fun h => fr_more (hp2 x h)) (fun h => by rw [List.mem_singleton.1 h]; exact .inr ⟨rfl, by show (k2 : Int) < ((k2 + 1 : Nat) : Int); omega⟩)) (Le_sel (ts := [27, 7, 22, 21, 20, 3, 2]) (ids := [11, 10, 9, 8, 7, 0, 1, 2, 3, 4, 5, 6]) (nx := 12) (by kernel_rfl))
  intro u2_0 hR2 hP2 s' hl
  obtain ⟨kP2, hkP2, hpP2⟩ := hP2
  replace hpP2 : ∀ x ∈ u2_0, (x.sh = -1 ∨ ∃ j : Nat, j < k1 ∧ x.mi = (freeA b.fw).1.getD j 0) ∨ (x.mi = (freeA b.fw).1.getD k1 0 ∧ x.sh < (kP2 : Int)) := hpP2
  refine WP_le hl ?_
  clear hl s'
  refine WRA tt_ok ?_
  show Q1 .normal _
  exact LA_go hq1 (ci := IntKind.i64.wrap ((k1 : Int) + 1)) u2_0 hk1 (by show _ = ((k1 + 1 : Nat) : Int); rw [wrapI (by omega) (by omega)]; omega) (loopR_go hi1 hk1 hc1 (by unfold openedX_b1; simp only [hR2, cond_true, cond_false])) (fun x hx => fr_next (hpP2 x hx)) (Le_sel (ts := [22, 21, 20, 3, 2]) (ids := [11, 10, 9, 8, 7, 0, 1, 2, 3, 4, 5, 6]) (nx := 12) (by kernel_rfl))
 intro u1_0 hR1 hP1 s' hl
 obtain ⟨kP1, hkP1, hpP1⟩ := hP1
 replace hpP1 : ∀ x ∈ u1_0, x.sh = -1 ∨ ∃ j : Nat, j < kP1 ∧ x.mi = (freeA b.fw).1.getD j 0 := hpP1
 refine WP_le hl ?_
 clear hl s'
 refine WSA tt_ok ?_
 refine WP_ret ?_
 exact ⟨.g (xR b gM1), by kernel_rfl, fun nV w' h => ⟨gM1, by rw [show g0 = nV 0 from (h.ini 0 (by show 0 < 5; decide)).symm]; rw [show g1 = nV 1 from (h.ini 1 (by show 1 < 5; decide)).symm]; rw [show g2 = nV 2 from (h.ini 2 (by show 2 < 5; decide)).symm]; rw [show g3 = nV 3 from (h.ini 3 (by show 3 < 5; decide)).symm]; rw [show g4 = nV 4 from (h.ini 4 (by show 4 < 5; decide)).symm]; rfl, h.bel, (h.ents (9, mapE gM1 u1_0 fkKey fkVal) (fnd_mem (by kernel_rfl))).2.1 gM1 rfl, by rw [show openedX b = u1_0 from by unfold openedX; simp only [hR1, cond_true, cond_false]]; exact (h.ents (9, mapE gM1 u1_0 fkKey fkVal) (fnd_mem (by kernel_rfl))).1⟩⟩
theorem openedX_eq (b : XBook) : openedX b = fkL b.fw := by
 unfold openedX
 rw [loopR_app (b := openedX_b1 b) (c := openedX_c1 b) (fun k : Nat => [(⟨0, (freeA b.fw).1.getD k 0, true⟩ : Fr), ⟨1, (freeA b.fw).1.getD k 0, true⟩]) (fun k v hk => by simp only [openedX_c1]; rw [decide_eq_true]; omega) (fun k v hk => by
  show Bd.go ((v ++ [_]) ++ [_]) = _
  rw [List.append_assoc]
  rfl)]
 unfold fkL
 simp only [List.nil_append, List.singleton_append]
 congr 1
 generalize (freeA b.fw).1 = l
 have : l = (List.range l.length).map fun k => l.getD k 0 := by
  apply List.ext_getElem
  ·simp
  intro i h1 h2; simp [List.getD_eq_getElem?_getD, List.getElem?_eq_getElem h1]
 conv => rhs; rw [this, List.flatMap_map]
theorem opened_fkL (g0 g1 g2 g3 g4 : Value) (b : XBook) (w : World) (r0 : Reads w g0 2 b.lan.tides encSpan zSpan) (r1 : Reads w g1 3 b.lan.sounds encSound zSound) (r2 : Reads w g2 5 b.fw.ships encShip zShip) (r3 : Reads w g3 4 b.fw.sights encSight zSight) (r4 : Reads w g4 2 b.trips encTrip zTrip) (ha : AsksAt w) (hxn : XNowhereAt w) : Calls Tryd.prog 61 #[.agg ((xV g0 b g1 g2 g3 g4).toArray)] w fun e w' => ∃ gm, e = .returned (.agg ((lanV g0 b.lan [g1, g2, iv b.fw.hear.lo, iv b.fw.hear.hi, iv b.fw.br, iv b.fw.cr, iv b.fw.sl, g3, iv b.each, iv b.shore, iv b.turn, g4, .map (some gm)]).toArray)) ∧ Below w.heap.size w w' ∧ w.heap.size ≤ gm ∧ w'.heap[gm]? = some (.map (ents (fkL b.fw) fkKey fkVal) (fkL b.fw).length) := by
 rw [← openedX_eq]
 exact openedX_calls g0 g1 g2 g3 g4 b w r0 r1 r2 r3 r4 ha hxn
abbrev hp5 : List (Nat × HE) := [(6, .pf UnknownAt (· = 4)), (7, .pf NowhereAt (· = 3)), (8, .pf LAsksAt (· = 1)), (9, .pf SidesAt (· = 0)), (10, .pf XNowhereAt (· = 2))]
def sureX (b : XBook) (p : (Int × Int)) (load : Int) : Bool :=
 (bif (p.1 == (-1) && p.2 == 0) || (!(atP (fkL b.fw) fkK fkIs p.1 p.2)) then false else (!(([(shoresX b p load).1, (shoresX b p load).2] : List Int) == [neverX.1, neverX.2])) && ((leastX 2 ([(shoresX b p load).1, (shoresX b p load).2] : List Int)) == 2))
theorem sureX_calls (g0 g1 g2 g3 g4 : Value) (gm : Nat) (b : XBook) (p : (Int × Int)) (load : Int) (w : World) (r0 : Reads w g0 2 b.lan.tides encSpan zSpan) (r1 : Reads w g1 3 b.lan.sounds encSound zSound) (r2 : Reads w g2 5 b.fw.ships encShip zShip) (r3 : Reads w g3 4 b.fw.sights encSight zSight) (r4 : Reads w g4 2 b.trips encTrip zTrip) (hm : w.heap[gm]? = some (.map (ents (fkL b.fw) fkKey fkVal) (fkL b.fw).length)) (hun : UnknownAt w) (hnw0 : NowhereAt w) (hla : LAsksAt w) (hsd : SidesAt w) (hxn : XNowhereAt w) (he : 1 ≤ b.each) : Calls Tryd.prog 113 #[.agg ((lanV g0 b.lan [g1, g2, iv b.fw.hear.lo, iv b.fw.hear.hi, iv b.fw.br, iv b.fw.cr, iv b.fw.sl, g3, iv b.each, iv b.shore, iv b.turn, g4, .map (some gm)]).toArray), .agg #[iv p.1, iv p.2], iv load] w fun e w' => e = .returned (.bool (sureX b p load)) ∧ Below w.heap.size w w' := by
 refine CW tt_ok [g0, g1, g2, g3, g4] 5 [.g (xR b gm), .g [.int .i64 p.1, .int .i64 p.2], .s (.int .i64 load)] (roX b ((5, mapF gm (fkL b.fw) fkKey fkVal) :: hp5)) 11 Tryd.func113 rfl rfl rfl (by simp [r0.one, r1.one, r2.one, r3.one, r4.one]) ⟨ro_in r0, ro_in r1, ro_in r2, ro_in r3, ro_in r4, ⟨⟨hm, fun w1 w2 h1 hw => (hw gm rfl).trans h1, fun g hg => by cases hg; exact (Array.getElem?_eq_some_iff.1 hm).1⟩, (Nat.le_of_ble_eq_true rfl)⟩, pf_in hun, pf_in hnw0, pf_in hla, pf_in hsd, pf_in hxn, trivial⟩ ?_
 have hl0 := Reads.len r0
 have hl1 := Reads.len r1
 have hl2 := Reads.len r2
 have hl3 := Reads.len r3
 have hl4 := Reads.len r4
 refine WSA tt_ok ?_
 refine WP_seq (WP_seq (WP_region (WPO_run tt_ok 1 (by kernel_rfl) ?_)))
 refine LDGo tt_ok 86 2 0 (some 9) [.int .i64 (-1), .int .i64 0] 86 (.g [.int .i64 (-1), .int .i64 0]) (by kernel_rfl) (by kernel_rfl) (by kernel_rfl) (fun nV w h => (h.fu 10 2 XNowhereAt)) (by kernel_rfl) ?_
 refine BIN .eql 86 (.tmp 8) (.tmp 9) (.g [.int .i64 p.1, .int .i64 p.2]) (.g [.int .i64 (-1), .int .i64 0]) (.s (.bool (p.1 == (-1) && p.2 == 0))) [] (by kernel_rfl) (by kernel_rfl) (by kernel_rfl) (fun _ => BinOk_pair (by kernel_rfl) _ _ _ _) ?_
 refine WPO_run tt_ok 4 (by kernel_rfl) ?_
 refine LKP_pair tt_ok (fkL b.fw) fkKey fkVal fkK fkIs (fkL b.fw).length gm 86 4 p.1 p.2 [(p.1 == (-1) && p.2 == 0, false)] (by kernel_rfl) (fun _ => rfl) (fun _ => rfl) (by kernel_rfl) (by kernel_rfl) (by kernel_rfl) (fun nV w h => (h.ents (5, mapF gm (fkL b.fw) fkKey fkVal) (fnd_mem (by kernel_rfl))).1) ?_
 refine WPA tt_ok ?_
 refine WP_cond ((p.1 == (-1) && p.2 == 0) || (!(atP (fkL b.fw) fkK fkIs p.1 p.2))) (by kernel_rfl) (fun hc2 => ?_) (fun hc2 => ?_)
 ·have hc2' := hc2; try simp only [bfs, ne_eq] at hc2'
  refine WSA tt_ok ?_
  refine WP_ret ?_
  exact ⟨.s (.bool false), by kernel_rfl, fun nV w' h => ⟨by rw [show sureX b p load = false from by unfold sureX; simp only [hc2, cond_true, cond_false]]; rfl, h.bel⟩⟩
 have hc2' := hc2; try simp only [bfs, ne_eq] at hc2'
 refine WP_skip ?_
 refine WSR tt_ok 3 ?_
 refine CAL 50 [.g (xR b gm), .g [.int .i64 p.1, .int .i64 p.2], .s (.int .i64 load)] (.g [.int .i64 (shoresX b p load).1, .int .i64 (shoresX b p load).2]) [] (fun hG nV w h => shoresX_calls (nV 0) (nV 1) (nV 2) (nV 3) (nV 4) gm b p load w (h.rd 0 24) (h.rd 1 112) (h.rd 2 103) (h.rd 3 105) (h.rd 4 60) (h.ft 6 4) (h.ft 7 3) (h.ft 8 1) (h.ft 9 0) (by first | assumption | omega)) ?_
 refine WPA tt_ok ?_
 refine WP_seq (WP_draw (by kernel_rfl) (by kernel_rfl) ?_)
 refine WPQ_run tt_ok 1 (by kernel_rfl) ?_
 refine QCALL 77 [] (.g [.int .i64 neverX.1, .int .i64 neverX.2]) [] (by kernel_rfl) (goes_of (by kernel_rfl)) (by kernel_rfl) (by kernel_rfl) (fun hG nV w h => neverX_calls   w  ) ?_
 refine QBIN .neq 83 (.tmp 22) (.tmp 23) (.g [.int .i64 (shoresX b p load).1, .int .i64 (shoresX b p load).2]) (.g [.int .i64 neverX.1, .int .i64 neverX.2]) (.s (.bool (!(([(shoresX b p load).1, (shoresX b p load).2] : List Int) == [neverX.1, neverX.2])))) [] (by kernel_rfl) (by kernel_rfl) (by kernel_rfl) (fun _ => (BinOk_arrI (m := 2) (xs := [(shoresX b p load).1, (shoresX b p load).2]) (ys := [neverX.1, neverX.2]) (by kernel_rfl) rfl rfl).2) ?_
 refine WPQ_run tt_ok 1 (by kernel_rfl) ?_
 refine QBSL tt_ok 0 2 2 2 [(!(([(shoresX b p load).1, (shoresX b p load).2] : List Int) == [neverX.1, neverX.2]), true)] (by kernel_rfl) (fun _ => ⟨by omega, by omega⟩) (by kernel_rfl) ?_
 refine QCALL 51 [.s (.int .i64 2), .s (.sb 13 0 1 0 2 2)] (.s (.int .i64 (leastX 2 ([(shoresX b p load).1, (shoresX b p load).2] : List Int)))) [(!(([(shoresX b p load).1, (shoresX b p load).2] : List Int) == [neverX.1, neverX.2]), true)] (by kernel_rfl) (goes_of (by kernel_rfl)) (by kernel_rfl) (by kernel_rfl) (fun hG nV w h => leastX_calls ((AC.sb 13 0 1 0 2 2).c nV) 2 ([(shoresX b p load).1, (shoresX b p load).2] : List Int) w (sb_reads h (id := 13) (ty := 83) (cs := [.int .i64 (shoresX b p load).1, .int .i64 (shoresX b p load).2]) (by kernel_rfl) (off := 0) (i := 0) (j := 2) (k := 2) (m := 2) ⟨by decide, by decide, by decide⟩ (Nat.le_of_ble_eq_true rfl) (by decide) (AC.int .i64) (Value.int .i64) (fun _ => rfl) ([(shoresX b p load).1, (shoresX b p load).2] : List Int) 0 rfl (fun q hq => by rcases (show q = 0 ∨ q = 1 by omega) with rfl | rfl <;> rfl)) ) ?_
 refine WPQ_all tt_ok (by kernel_rfl) ?_
 refine WP_ret ?_
 exact ⟨.s (.bool ((!(([(shoresX b p load).1, (shoresX b p load).2] : List Int) == [neverX.1, neverX.2])) && ((leastX 2 ([(shoresX b p load).1, (shoresX b p load).2] : List Int)) == 2))), by kernel_rfl, fun nV w' h => ⟨by rw [show sureX b p load = ((!(([(shoresX b p load).1, (shoresX b p load).2] : List Int) == [neverX.1, neverX.2])) && ((leastX 2 ([(shoresX b p load).1, (shoresX b p load).2] : List Int)) == 2)) from by unfold sureX; simp only [hc2, cond_true, cond_false]]; rfl, h.bel⟩⟩
def stepO (d : Bool) : Int := if d then 1 else -1
def nX (d : Bool) (m : Int) : Nat := if 0 ≤ m ∧ m ≤ 60 then (if d then (61 - m).toNat else (m + 1).toNat) else 0
def preX (b : XBook) (p : Int × Int) (load : Int) (d : Bool) (k : Nat) : List Int := ((List.range k).map fun q : Nat => p.2 + stepO d * q).filter fun m => sureX b (p.1, m) load
def depX (b : XBook) (p : Int × Int) (load : Int) (d : Bool) : List Int := preX b p load d (nX d p.2)
theorem preX_succ (b : XBook) (p : Int × Int) (load : Int) (d : Bool) (k : Nat) : preX b p load d (k + 1) = preX b p load d k ++ (if sureX b (p.1, p.2 + stepO d * k) load then [p.2 + stepO d * (k : Int)] else []) := by
  unfold preX
  rw [List.range_succ, List.map_append, List.filter_append]
  congr 1
  simp only [List.map_cons, List.map_nil, List.filter_cons, List.filter_nil]
theorem preX_prefix {b : XBook} {p : Int × Int} {load : Int} {d : Bool} {k : Nat} (h : k ≤ nX d p.2) : preX b p load d k <+: depX b p load d := by
  unfold depX preX
  refine List.IsPrefix.filter _ (List.IsPrefix.map _ ?_)
  exact List.prefix_iff_eq_take.2 (by rw [List.length_range, List.take_range]; congr 1; omega)
theorem nX_in {d : Bool} {m : Int} {k : Nat} (hk : k ≤ nX d m) (h : isMinuteX (m + stepO d * k) = true) : k < nX d m ∧ 0 ≤ m + stepO d * k ∧ m + stepO d * k ≤ 60 := by
  unfold isMinuteX withinX at h
  simp only [Bool.and_eq_true, decide_eq_true_eq] at h
  refine ⟨?_, h.1, h.2⟩
  unfold nX at *
  cases d <;> simp only [stepO, if_true, if_false, Bool.false_eq_true] at * <;> split at hk <;> first | (rw [if_pos (by omega)]; omega) | (have : k = 0 := by omega; subst this; rw [if_pos (by simpa using h)]; omega) | omega
theorem nX_out {d : Bool} {m : Int} {k : Nat} (hk : k ≤ nX d m) (h : isMinuteX (m + stepO d * k) = false) : k = nX d m := by
  unfold isMinuteX withinX at h
  simp only [Bool.and_eq_false_iff, decide_eq_false_iff_not] at h
  unfold nX at *
  cases d <;> simp only [stepO, if_true, if_false, Bool.false_eq_true] at * <;> split at hk <;> first | (rw [if_pos (by omega)]; omega) | (rw [if_neg (by omega)]; omega) | omega
def lastI (l : List Int) : Int := l.getLast?.getD 0
theorem lastI_snoc (l : List Int) (x : Int) : lastI (l ++ [x]) = x := by simp [lastI]
def firstQ : List Int → Int × Bool
  | [] => (0, false)
  | y :: _ => (y, true)
theorem first_stop {l pre : List Int} (hpre : pre <+: l) (hst : ∃ y : Int, pre = [y]) : firstQ l = (lastI pre, true) := by
  obtain ⟨y, rfl⟩ := hst
  obtain ⟨r, rfl⟩ := hpre
  rfl
def stepU (m : Int) : Int :=
  IntKind.i64.wrap (m + 1)
theorem stepU_calls  (m : Int) (w : World)   : Calls Tryd.prog 85 #[iv m] w fun e w' => e = .returned (iv (stepU m)) ∧ Below w.heap.size w w' := by
  refine C0 tt_ok [.s (.int .i64 m)] Tryd.func85 rfl rfl rfl ?_
  refine WSA tt_ok ?_
  refine WSA tt_ok ?_
  refine WP_ret ?_
  exact ⟨.s (.int .i64 (IntKind.i64.wrap (m + 1))), by kernel_rfl, fun nV w' h => ⟨by rw [show stepU m = (IntKind.i64.wrap (m + 1)) from rfl]; rfl, h.bel⟩⟩
def stepD (m : Int) : Int :=
  IntKind.i64.wrap (m - 1)
theorem stepD_calls  (m : Int) (w : World)   : Calls Tryd.prog 86 #[iv m] w fun e w' => e = .returned (iv (stepD m)) ∧ Below w.heap.size w w' := by
  refine C0 tt_ok [.s (.int .i64 m)] Tryd.func86 rfl rfl rfl ?_
  refine WSA tt_ok ?_
  refine WSA tt_ok ?_
  refine WP_ret ?_
  exact ⟨.s (.int .i64 (IntKind.i64.wrap (m - 1))), by kernel_rfl, fun nV w' h => ⟨by rw [show stepD m = (IntKind.i64.wrap (m - 1)) from rfl]; rfl, h.bel⟩⟩
theorem dep_okU16 {cx : Cx} {s s1 : AS} {H : List (Nat × HE)} {b : XBook} {p : Int × Int} {load : Int} {gm : Nat} (h1 : s.hp = H) (h2 : s.nx = 16)
    (h3 : s1.hp = (20, .clo 112 [] [.s (.p 16 0), .s (.p 17 0), .s (.p 19 0), .s (.p 18 0)]) :: (19, .box 95 [.v (.func (.func 85) #[] #[])]) :: (18, .box 3 [ai load]) :: (17, .box 86 [ai p.1, ai p.2]) :: (16, .box 78 (xR b gm)) :: H) (h4 : s1.nx = 21) :
    CallOk Tryd.prog cx s 101 [.g (xR b gm), .g [ai p.1, ai p.2], .s (ai load), .g [.v (.func (.func 85) #[] #[])]] (.s (.ref 20)) s1 := by
  intro n w hh
  have hh2 : HSat ⟨cx.w0, cx.ok, n, 16, true⟩ n ⟨10, env0 0 [.g (xR b gm), .g [ai p.1, ai p.2], .s (ai load), .g [.v (.func (.func 85) #[] #[])]], H, 16, []⟩ w :=
    (HSat.top (b := true) hh).of_same (s2 := ⟨10, env0 0 [.g (xR b gm), .g [ai p.1, ai p.2], .s (ai load), .g [.v (.func (.func 85) #[] #[])]], H, 16, []⟩) h1.symm h2.symm |> fun h => by rw [h2] at h; exact h
  refine calls_of_WP (cx := ⟨cx.w0, cx.ok, n, 16, true⟩) (n := n) (vs := [.g (xR b gm), .g [ai p.1, ai p.2], .s (ai load), .g [.v (.func (.func 85) #[] #[])]]) (hp := H) (nx := 16) tt_ok Tryd.func101 rfl rfl rfl (by kernel_rfl) hh2 (vsOk (by kernel_rfl)) ?_
  refine WSA tt_ok ?_
  refine WSA tt_ok ?_
  refine WP_ret ?_
  exact ⟨.s (.ref 20), by kernel_rfl, fun n1 w' h => ⟨n1, fun id hid => h.ini id (by rw [← h2]; exact hid), rfl, ((h.of_same (s2 := s1) (by rw [h3]; kernel_rfl) (by rw [h4]; kernel_rfl)).back (fun id hid => hh.ini id hid) (by have := hh.inx; rw [h2] at this; exact this))⟩⟩
theorem dep_iterU (b : XBook) (p : Int × Int) (load : Int) (gm : Nat) (he : 1 ≤ b.each) : IterOk Tryd.prog 112 [.s (.p 16 0), .s (.p 17 0), .s (.p 19 0), .s (.p 18 0)] [(16, .box 78 (xR b gm)), (17, .box 86 [.int .i64 p.1, .int .i64 p.2]), (19, .box 95 [.v (.func (.func 85) #[] #[])]), (18, .box 3 [.int .i64 load])] (roX b ((5, mapF gm (fkL b.fw) fkKey fkVal) :: hp5)) 22 encH (depX b p load true) := by
  intro cx n w LL RF GR J Jx G0 hJ hJx hY hh
  have e : (#[.func (.yield LL) #[] #[]] ++ (([.s (.p 16 0), .s (.p 17 0), .s (.p 19 0), .s (.p 18 0)] : List AV).map (AV.c n)).toArray : Array Value) = (([.s (.v (.func (.yield LL) #[] #[])), .s (.p 16 0), .s (.p 17 0), .s (.p 19 0), .s (.p 18 0)] : List AV).map (AV.c n)).toArray := by simp [AV.c, AC.c]
  rw [e]
  refine calls_of_WP (cx := ⟨cx.w0, cx.ok, n, 24, true⟩) (n := n) (vs := [.s (.v (.func (.yield LL) #[] #[])), .s (.p 16 0), .s (.p 17 0), .s (.p 19 0), .s (.p 18 0)]) (hp := ((22, .jf (J ([]) G0) G0) :: (23, .pf RF GR) :: (16, .box 78 (xR b gm)) :: (17, .box 86 [.int .i64 p.1, .int .i64 p.2]) :: (19, .box 95 [.v (.func (.func 85) #[] #[])]) :: (18, .box 3 [.int .i64 load]) :: (roX b ((5, mapF gm (fkL b.fw) fkKey fkVal) :: hp5)))) (nx := 24) tt_ok Tryd.func112 rfl rfl rfl (by kernel_rfl) (hh.top.slots) (vsOk (by kernel_rfl)) ?_
  refine WP_scope ?_
  refine WSA tt_ok ?_
  refine WP_seq (WP_label ?_)
  refine WP_block (WP_loop (σ := Int × List Int × (Nat → Prop)) (fun zz => ⟨28, [(6, [], .s (.ref 24)), (0, [], .s (.v (.func (.yield LL) #[] #[]))), (2, [], .s (.p 17 0)), (3, [], .s (.p 19 0)), (4, [], .s (.p 18 0))], ((24, .clo 113 [.g (xR b gm)] []) :: (22, .jf (J zz.2.1 zz.2.2) zz.2.2) :: (23, .pf RF GR) :: (16, .box 78 (xR b gm)) :: (17, .box 86 [.int .i64 p.1, .int .i64 zz.1]) :: (19, .box 95 [.v (.func (.func 85) #[] #[])]) :: (18, .box 3 [.int .i64 load]) :: (roX b ((5, mapF gm (fkL b.fw) fkKey fkVal) :: hp5))), 25, []⟩) (fun zz => ∃ k : Nat, k ≤ nX true p.2 ∧ zz.1 = (p.2 + stepO true * (k : Int)) ∧ zz.2.1 = preX b p load true k) (fun zz => nX true p.2 - (zz.1 - p.2).natAbs) (p.2, [], G0) (⟨0, by omega, by simp, rfl⟩) (Le_sel (ts := [6, 0, 2, 3, 4]) (ids := [24, 22, 23, 16, 17, 19, 18, 0, 1, 2, 3, 4, 5, 6, 7, 8, 9, 10]) (nx := 25) (by kernel_rfl)) ?_)
  rintro ⟨mi, pre, G⟩ hinv
  obtain ⟨k, hk0, hii, hpre⟩ := hinv
  simp only at hii hpre
  subst hii
  subst hpre
  refine WP_seq (WP_seq (WP_region (WPO_run tt_ok 2 (by kernel_rfl) ?_)))
  refine CAL 48 [.s (.int .i64 (p.2 + stepO true * (k : Int)))] (.s (.bool (isMinuteX (p.2 + stepO true * (k : Int))))) [] (fun hG nV w h => isMinuteX_calls  (p.2 + stepO true * (k : Int)) w  ) ?_
  refine WPO_nil ?_
  refine WP_cond ((isMinuteX (p.2 + stepO true * (k : Int)))) (by kernel_rfl) (fun hc2 => ?_) (fun hc2 => ?_)
  · obtain ⟨hk, hm0, hm60⟩ := nX_in hk0 hc2
    refine WP_skip ?_
    refine WP_seq (WP_block ?_)
    refine WP_seq (WP_seq (WP_region (WPO_run tt_ok 3 (by kernel_rfl) ?_)))
    refine CAL 113 [.g (xR b gm), .g [.int .i64 p.1, .int .i64 (p.2 + stepO true * (k : Int))], .s (.int .i64 load)] (.s (.bool (sureX b (⟨p.1, (p.2 + stepO true * (k : Int))⟩ : (Int × Int)) load))) [] (fun hG nV w h => sureX_calls (nV 0) (nV 1) (nV 2) (nV 3) (nV 4) gm b (⟨p.1, (p.2 + stepO true * (k : Int))⟩ : (Int × Int)) load w (h.rd 0 24) (h.rd 1 112) (h.rd 2 103) (h.rd 3 105) (h.rd 4 60) (h.ents (5, mapF gm (fkL b.fw) fkKey fkVal) (fnd_mem (by kernel_rfl))).1 (h.ft 6 4) (h.ft 7 3) (h.ft 8 1) (h.ft 9 0) (h.ft 10 2) (by first | assumption | omega)) ?_
    refine WPA tt_ok ?_
    refine WP_cond (!(sureX b (⟨p.1, (p.2 + stepO true * (k : Int))⟩ : (Int × Int)) load)) (by kernel_rfl) (fun hc4 => ?_) (fun hc4 => ?_)
    · have hc4' := hc4; try simp only [bfs, ne_eq] at hc4'
      refine WP_exit ?_
      refine WP_region (WPO_run tt_ok 4 (by kernel_rfl) ?_)
      refine CAL 85 [.s (.int .i64 (p.2 + stepO true * (k : Int)))] (.s (.int .i64 (stepU (p.2 + stepO true * (k : Int))))) [] (fun hG nV w h => stepU_calls  (p.2 + stepO true * (k : Int)) w  ) ?_
      refine WPA tt_ok ?_
      refine ⟨((stepU (p.2 + stepO true * (k : Int))), preX b p load true k, G), ?_, ?_, Le_sel (ts := [6, 0, 2, 3, 4]) (ids := [24, 22, 23, 16, 17, 19, 18, 0, 1, 2, 3, 4, 5, 6, 7, 8, 9, 10]) (nx := 25) (by kernel_rfl)⟩
      · refine ⟨k + 1, by omega, by simp only [stepU, stepO, if_true, if_false, Bool.false_eq_true] at *; rw [wrapI (by omega) (by omega)]; omega, ?_⟩
        simp only
        rw [preX_succ]
        first
        | (have h9 : sureX b (p.1, (p.2 + stepO true * (k : Int))) load = true := by assumption
           rw [if_pos h9])
        | (have h9 : sureX b (p.1, (p.2 + stepO true * (k : Int))) load = false := by assumption
           rw [if_neg (by rw [h9]; decide), List.append_nil])
      simp only [stepU, stepO, if_true, if_false, Bool.false_eq_true] at *
      rw [wrapI (by omega) (by omega)]
      omega
    have hc4' := hc4; try simp only [bfs, ne_eq] at hc4'
    refine WP_skip ?_
    have hgo : preX b p load true (k + 1) = preX b p load true k ++ [(p.2 + stepO true * (k : Int))] := by rw [preX_succ, if_pos (by assumption)]
    refine WP_seq (WP_yield tt_ok 3 (preX b p load true k) (p.2 + stepO true * (k : Int)) LL 22 23 [.s (.int .i64 (p.2 + stepO true * (k : Int)))] (some 26) G GR encH (depX b p load true) RF J Jx (by kernel_rfl) (by kernel_rfl) (by kernel_rfl) (by kernel_rfl) hJ hJx hY (by (rw [← hgo]; exact preX_prefix (by omega))) (fun n => by rfl) (fun F' G' b => by kernel_rfl) (fun G' => ?_) (fun G' => ?_))
    · refine WP_cond (!true) (by kernel_rfl) (fun h => by cases h) (fun hc5 => ?_)
      refine WP_skip ?_
      refine WP_region (WPO_run tt_ok 4 (by kernel_rfl) ?_)
      refine CAL 85 [.s (.int .i64 (p.2 + stepO true * (k : Int)))] (.s (.int .i64 (stepU (p.2 + stepO true * (k : Int))))) [] (fun hG nV w h => stepU_calls  (p.2 + stepO true * (k : Int)) w  ) ?_
      refine WPA tt_ok ?_
      refine ⟨((stepU (p.2 + stepO true * (k : Int))), preX b p load true k ++ [(p.2 + stepO true * (k : Int))], G'), ?_, ?_, Le_sel (ts := [6, 0, 2, 3, 4]) (ids := [24, 22, 23, 16, 17, 19, 18, 0, 1, 2, 3, 4, 5, 6, 7, 8, 9, 10]) (nx := 25) (by kernel_rfl)⟩
      · refine ⟨k + 1, by omega, by simp only [stepU, stepO, if_true, if_false, Bool.false_eq_true] at *; rw [wrapI (by omega) (by omega)]; omega, ?_⟩
        simp only
        rw [preX_succ]
        first
        | (have h9 : sureX b (p.1, (p.2 + stepO true * (k : Int))) load = true := by assumption
           rw [if_pos h9])
        | (have h9 : sureX b (p.1, (p.2 + stepO true * (k : Int))) load = false := by assumption
           rw [if_neg (by rw [h9]; decide), List.append_nil])
      simp only [stepU, stepO, if_true, if_false, Bool.false_eq_true] at *
      rw [wrapI (by omega) (by omega)]
      omega
    refine WP_cond (!false) (by kernel_rfl) (fun hc6 => ?_) (fun h => by cases h)
    refine WP_ret ?_
    exact ⟨.t [], by kernel_rfl, fun n1 w' h => ⟨⟨_, rfl⟩, n1, G', preX b p load true k ++ [(p.2 + stepO true * (k : Int))], fun id hid => h.ini id hid, .inr ⟨(by rw [← hgo]; exact preX_prefix (by omega)), (h.back hh.ini hh.inx).two (by kernel_rfl) (by kernel_rfl) rfl 24 hh.inx (by omega) (by omega)⟩⟩⟩
  refine WP_exit ?_
  have hkn : k = nX true p.2 := nX_out hk0 hc2
  exact ⟨.t [], by kernel_rfl, fun n1 w' h => ⟨⟨_, rfl⟩, n1, G, preX b p load true k, fun id hid => h.ini id hid, .inl ⟨by unfold depX; rw [hkn], (h.back hh.ini hh.inx).two (by kernel_rfl) (by kernel_rfl) rfl 24 hh.inx (by omega) (by omega)⟩⟩⟩
theorem dep_okD16 {cx : Cx} {s s1 : AS} {H : List (Nat × HE)} {b : XBook} {p : Int × Int} {load : Int} {gm : Nat} (h1 : s.hp = H) (h2 : s.nx = 16)
    (h3 : s1.hp = (20, .clo 112 [] [.s (.p 16 0), .s (.p 17 0), .s (.p 19 0), .s (.p 18 0)]) :: (19, .box 95 [.v (.func (.func 86) #[] #[])]) :: (18, .box 3 [ai load]) :: (17, .box 86 [ai p.1, ai p.2]) :: (16, .box 78 (xR b gm)) :: H) (h4 : s1.nx = 21) :
    CallOk Tryd.prog cx s 101 [.g (xR b gm), .g [ai p.1, ai p.2], .s (ai load), .g [.v (.func (.func 86) #[] #[])]] (.s (.ref 20)) s1 := by
  intro n w hh
  have hh2 : HSat ⟨cx.w0, cx.ok, n, 16, true⟩ n ⟨10, env0 0 [.g (xR b gm), .g [ai p.1, ai p.2], .s (ai load), .g [.v (.func (.func 86) #[] #[])]], H, 16, []⟩ w :=
    (HSat.top (b := true) hh).of_same (s2 := ⟨10, env0 0 [.g (xR b gm), .g [ai p.1, ai p.2], .s (ai load), .g [.v (.func (.func 86) #[] #[])]], H, 16, []⟩) h1.symm h2.symm |> fun h => by rw [h2] at h; exact h
  refine calls_of_WP (cx := ⟨cx.w0, cx.ok, n, 16, true⟩) (n := n) (vs := [.g (xR b gm), .g [ai p.1, ai p.2], .s (ai load), .g [.v (.func (.func 86) #[] #[])]]) (hp := H) (nx := 16) tt_ok Tryd.func101 rfl rfl rfl (by kernel_rfl) hh2 (vsOk (by kernel_rfl)) ?_
  refine WSA tt_ok ?_
  refine WSA tt_ok ?_
  refine WP_ret ?_
  exact ⟨.s (.ref 20), by kernel_rfl, fun n1 w' h => ⟨n1, fun id hid => h.ini id (by rw [← h2]; exact hid), rfl, ((h.of_same (s2 := s1) (by rw [h3]; kernel_rfl) (by rw [h4]; kernel_rfl)).back (fun id hid => hh.ini id hid) (by have := hh.inx; rw [h2] at this; exact this))⟩⟩
theorem dep_iterD (b : XBook) (p : Int × Int) (load : Int) (gm : Nat) (he : 1 ≤ b.each) : IterOk Tryd.prog 112 [.s (.p 16 0), .s (.p 17 0), .s (.p 19 0), .s (.p 18 0)] [(16, .box 78 (xR b gm)), (17, .box 86 [.int .i64 p.1, .int .i64 p.2]), (19, .box 95 [.v (.func (.func 86) #[] #[])]), (18, .box 3 [.int .i64 load])] (roX b ((5, mapF gm (fkL b.fw) fkKey fkVal) :: hp5)) 22 encH (depX b p load false) := by
  intro cx n w LL RF GR J Jx G0 hJ hJx hY hh
  have e : (#[.func (.yield LL) #[] #[]] ++ (([.s (.p 16 0), .s (.p 17 0), .s (.p 19 0), .s (.p 18 0)] : List AV).map (AV.c n)).toArray : Array Value) = (([.s (.v (.func (.yield LL) #[] #[])), .s (.p 16 0), .s (.p 17 0), .s (.p 19 0), .s (.p 18 0)] : List AV).map (AV.c n)).toArray := by simp [AV.c, AC.c]
  rw [e]
  refine calls_of_WP (cx := ⟨cx.w0, cx.ok, n, 24, true⟩) (n := n) (vs := [.s (.v (.func (.yield LL) #[] #[])), .s (.p 16 0), .s (.p 17 0), .s (.p 19 0), .s (.p 18 0)]) (hp := ((22, .jf (J ([]) G0) G0) :: (23, .pf RF GR) :: (16, .box 78 (xR b gm)) :: (17, .box 86 [.int .i64 p.1, .int .i64 p.2]) :: (19, .box 95 [.v (.func (.func 86) #[] #[])]) :: (18, .box 3 [.int .i64 load]) :: (roX b ((5, mapF gm (fkL b.fw) fkKey fkVal) :: hp5)))) (nx := 24) tt_ok Tryd.func112 rfl rfl rfl (by kernel_rfl) (hh.top.slots) (vsOk (by kernel_rfl)) ?_
  refine WP_scope ?_
  refine WSA tt_ok ?_
  refine WP_seq (WP_label ?_)
  refine WP_block (WP_loop (σ := Int × List Int × (Nat → Prop)) (fun zz => ⟨28, [(6, [], .s (.ref 24)), (0, [], .s (.v (.func (.yield LL) #[] #[]))), (2, [], .s (.p 17 0)), (3, [], .s (.p 19 0)), (4, [], .s (.p 18 0))], ((24, .clo 113 [.g (xR b gm)] []) :: (22, .jf (J zz.2.1 zz.2.2) zz.2.2) :: (23, .pf RF GR) :: (16, .box 78 (xR b gm)) :: (17, .box 86 [.int .i64 p.1, .int .i64 zz.1]) :: (19, .box 95 [.v (.func (.func 86) #[] #[])]) :: (18, .box 3 [.int .i64 load]) :: (roX b ((5, mapF gm (fkL b.fw) fkKey fkVal) :: hp5))), 25, []⟩) (fun zz => ∃ k : Nat, k ≤ nX false p.2 ∧ zz.1 = (p.2 + stepO false * (k : Int)) ∧ zz.2.1 = preX b p load false k) (fun zz => nX false p.2 - (zz.1 - p.2).natAbs) (p.2, [], G0) (⟨0, by omega, by simp, rfl⟩) (Le_sel (ts := [6, 0, 2, 3, 4]) (ids := [24, 22, 23, 16, 17, 19, 18, 0, 1, 2, 3, 4, 5, 6, 7, 8, 9, 10]) (nx := 25) (by kernel_rfl)) ?_)
  rintro ⟨mi, pre, G⟩ hinv
  obtain ⟨k, hk0, hii, hpre⟩ := hinv
  simp only at hii hpre
  subst hii
  subst hpre
  refine WP_seq (WP_seq (WP_region (WPO_run tt_ok 2 (by kernel_rfl) ?_)))
  refine CAL 48 [.s (.int .i64 (p.2 + stepO false * (k : Int)))] (.s (.bool (isMinuteX (p.2 + stepO false * (k : Int))))) [] (fun hG nV w h => isMinuteX_calls  (p.2 + stepO false * (k : Int)) w  ) ?_
  refine WPO_nil ?_
  refine WP_cond ((isMinuteX (p.2 + stepO false * (k : Int)))) (by kernel_rfl) (fun hc2 => ?_) (fun hc2 => ?_)
  · obtain ⟨hk, hm0, hm60⟩ := nX_in hk0 hc2
    refine WP_skip ?_
    refine WP_seq (WP_block ?_)
    refine WP_seq (WP_seq (WP_region (WPO_run tt_ok 3 (by kernel_rfl) ?_)))
    refine CAL 113 [.g (xR b gm), .g [.int .i64 p.1, .int .i64 (p.2 + stepO false * (k : Int))], .s (.int .i64 load)] (.s (.bool (sureX b (⟨p.1, (p.2 + stepO false * (k : Int))⟩ : (Int × Int)) load))) [] (fun hG nV w h => sureX_calls (nV 0) (nV 1) (nV 2) (nV 3) (nV 4) gm b (⟨p.1, (p.2 + stepO false * (k : Int))⟩ : (Int × Int)) load w (h.rd 0 24) (h.rd 1 112) (h.rd 2 103) (h.rd 3 105) (h.rd 4 60) (h.ents (5, mapF gm (fkL b.fw) fkKey fkVal) (fnd_mem (by kernel_rfl))).1 (h.ft 6 4) (h.ft 7 3) (h.ft 8 1) (h.ft 9 0) (h.ft 10 2) (by first | assumption | omega)) ?_
    refine WPA tt_ok ?_
    refine WP_cond (!(sureX b (⟨p.1, (p.2 + stepO false * (k : Int))⟩ : (Int × Int)) load)) (by kernel_rfl) (fun hc4 => ?_) (fun hc4 => ?_)
    · have hc4' := hc4; try simp only [bfs, ne_eq] at hc4'
      refine WP_exit ?_
      refine WP_region (WPO_run tt_ok 4 (by kernel_rfl) ?_)
      refine CAL 86 [.s (.int .i64 (p.2 + stepO false * (k : Int)))] (.s (.int .i64 (stepD (p.2 + stepO false * (k : Int))))) [] (fun hG nV w h => stepD_calls  (p.2 + stepO false * (k : Int)) w  ) ?_
      refine WPA tt_ok ?_
      refine ⟨((stepD (p.2 + stepO false * (k : Int))), preX b p load false k, G), ?_, ?_, Le_sel (ts := [6, 0, 2, 3, 4]) (ids := [24, 22, 23, 16, 17, 19, 18, 0, 1, 2, 3, 4, 5, 6, 7, 8, 9, 10]) (nx := 25) (by kernel_rfl)⟩
      · refine ⟨k + 1, by omega, by simp only [stepD, stepO, if_true, if_false, Bool.false_eq_true] at *; rw [wrapI (by omega) (by omega)]; omega, ?_⟩
        simp only
        rw [preX_succ]
        first
        | (have h9 : sureX b (p.1, (p.2 + stepO false * (k : Int))) load = true := by assumption
           rw [if_pos h9])
        | (have h9 : sureX b (p.1, (p.2 + stepO false * (k : Int))) load = false := by assumption
           rw [if_neg (by rw [h9]; decide), List.append_nil])
      simp only [stepD, stepO, if_true, if_false, Bool.false_eq_true] at *
      rw [wrapI (by omega) (by omega)]
      omega
    have hc4' := hc4; try simp only [bfs, ne_eq] at hc4'
    refine WP_skip ?_
    have hgo : preX b p load false (k + 1) = preX b p load false k ++ [(p.2 + stepO false * (k : Int))] := by rw [preX_succ, if_pos (by assumption)]
    refine WP_seq (WP_yield tt_ok 3 (preX b p load false k) (p.2 + stepO false * (k : Int)) LL 22 23 [.s (.int .i64 (p.2 + stepO false * (k : Int)))] (some 26) G GR encH (depX b p load false) RF J Jx (by kernel_rfl) (by kernel_rfl) (by kernel_rfl) (by kernel_rfl) hJ hJx hY (by (rw [← hgo]; exact preX_prefix (by omega))) (fun n => by rfl) (fun F' G' b => by kernel_rfl) (fun G' => ?_) (fun G' => ?_))
    · refine WP_cond (!true) (by kernel_rfl) (fun h => by cases h) (fun hc5 => ?_)
      refine WP_skip ?_
      refine WP_region (WPO_run tt_ok 4 (by kernel_rfl) ?_)
      refine CAL 86 [.s (.int .i64 (p.2 + stepO false * (k : Int)))] (.s (.int .i64 (stepD (p.2 + stepO false * (k : Int))))) [] (fun hG nV w h => stepD_calls  (p.2 + stepO false * (k : Int)) w  ) ?_
      refine WPA tt_ok ?_
      refine ⟨((stepD (p.2 + stepO false * (k : Int))), preX b p load false k ++ [(p.2 + stepO false * (k : Int))], G'), ?_, ?_, Le_sel (ts := [6, 0, 2, 3, 4]) (ids := [24, 22, 23, 16, 17, 19, 18, 0, 1, 2, 3, 4, 5, 6, 7, 8, 9, 10]) (nx := 25) (by kernel_rfl)⟩
      · refine ⟨k + 1, by omega, by simp only [stepD, stepO, if_true, if_false, Bool.false_eq_true] at *; rw [wrapI (by omega) (by omega)]; omega, ?_⟩
        simp only
        rw [preX_succ]
        first
        | (have h9 : sureX b (p.1, (p.2 + stepO false * (k : Int))) load = true := by assumption
           rw [if_pos h9])
        | (have h9 : sureX b (p.1, (p.2 + stepO false * (k : Int))) load = false := by assumption
           rw [if_neg (by rw [h9]; decide), List.append_nil])
      simp only [stepD, stepO, if_true, if_false, Bool.false_eq_true] at *
      rw [wrapI (by omega) (by omega)]
      omega
    refine WP_cond (!false) (by kernel_rfl) (fun hc6 => ?_) (fun h => by cases h)
    refine WP_ret ?_
    exact ⟨.t [], by kernel_rfl, fun n1 w' h => ⟨⟨_, rfl⟩, n1, G', preX b p load false k ++ [(p.2 + stepO false * (k : Int))], fun id hid => h.ini id hid, .inr ⟨(by rw [← hgo]; exact preX_prefix (by omega)), (h.back hh.ini hh.inx).two (by kernel_rfl) (by kernel_rfl) rfl 24 hh.inx (by omega) (by omega)⟩⟩⟩
  refine WP_exit ?_
  have hkn : k = nX false p.2 := nX_out hk0 hc2
  exact ⟨.t [], by kernel_rfl, fun n1 w' h => ⟨⟨_, rfl⟩, n1, G, preX b p load false k, fun id hid => h.ini id hid, .inl ⟨by unfold depX; rw [hkn], (h.back hh.ini hh.inx).two (by kernel_rfl) (by kernel_rfl) rfl 24 hh.inx (by omega) (by omega)⟩⟩⟩
def firstU (b : XBook) (p : Int × Int) (load : Int) : Int × Bool := firstQ (depX b p load true)
theorem firstU_calls (g0 g1 g2 g3 g4 : Value) (gm : Nat) (b : XBook) (p : Int × Int) (load : Int) (w : World) (r0 : Reads w g0 2 b.lan.tides encSpan zSpan) (r1 : Reads w g1 3 b.lan.sounds encSound zSound) (r2 : Reads w g2 5 b.fw.ships encShip zShip) (r3 : Reads w g3 4 b.fw.sights encSight zSight) (r4 : Reads w g4 2 b.trips encTrip zTrip) (hm : w.heap[gm]? = some (.map (ents (fkL b.fw) fkKey fkVal) (fkL b.fw).length)) (hun : UnknownAt w) (hnw0 : NowhereAt w) (hla : LAsksAt w) (hsd : SidesAt w) (hxn : XNowhereAt w) (he : 1 ≤ b.each) : Calls Tryd.prog 84 #[.agg ((lanV g0 b.lan [g1, g2, iv b.fw.hear.lo, iv b.fw.hear.hi, iv b.fw.br, iv b.fw.cr, iv b.fw.sl, g3, iv b.each, iv b.shore, iv b.turn, g4, .map (some gm)]).toArray), .agg #[iv p.1, iv p.2], iv load, .agg #[.func (.func 85) #[] #[]]] w fun e w' => e = .returned (.tuple #[iv (firstU b p load).1, .bool (firstU b p load).2]) ∧ Below w.heap.size w w' := by
 refine calls_of_WPM (cx := cx0 w (vn [g0, g1, g2, g3, g4]) 5) (n := vn [g0, g1, g2, g3, g4]) (vs := [.g (xR b gm), .g [.int .i64 p.1, .int .i64 p.2], .s (.int .i64 load), .g [.v (.func (.func 85) #[] #[])]]) (hp := (roX b ((5, mapF gm (fkL b.fw) fkKey fkVal) :: hp5))) (nx := 11) tt_ok Tryd.func84 rfl rfl rfl (by kernel_rfl) (HSat_args (vn_one (by simp [r0.one, r1.one, r2.one, r3.one, r4.one])) (by decide) ⟨ro_in r0, ro_in r1, ro_in r2, ro_in r3, ro_in r4, ⟨⟨hm, fun w1 w2 h1 hw => (hw gm rfl).trans h1, fun g hg => by cases hg; exact (Array.getElem?_eq_some_iff.1 hm).1⟩, (Nat.le_of_ble_eq_true rfl)⟩, pf_in hun, pf_in hnw0, pf_in hla, pf_in hsd, pf_in hxn, trivial⟩) (vsOk (by kernel_rfl)) ?_
 have hl0 := Reads.len r0
 have hl1 := Reads.len r1
 have hl2 := Reads.len r2
 have hl3 := Reads.len r3
 have hl4 := Reads.len r4
 refine WSA tt_ok ?_
 refine WP_seq (WP_seq (WP_region (WPO_run tt_ok 4 (by kernel_rfl) ?_)))
 refine CALLN 101 [.g (xR b gm), .g [.int .i64 p.1, .int .i64 p.2], .s (.int .i64 load), .g [.v (.func (.func 85) #[] #[])]] ⟨18, [(14, [], .g [.v (.func (.func 85) #[] #[])]), (13, [], .s (.int .i64 load)), (12, [], .g [.int .i64 p.1, .int .i64 p.2]), (11, [], .g (xR b gm)), (9, [], .s (.p 15 0)), (8, [], .s (.p 14 0)), (7, [], .s (.p 13 0)), (5, [], .s (.p 12 0)), (4, [], .s (.p 11 0)), (0, [], .g (xR b gm)), (1, [], .g [.int .i64 p.1, .int .i64 p.2]), (2, [], .s (.int .i64 load)), (3, [], .g [.v (.func (.func 85) #[] #[])])], ((20, .clo 112 [] [.s (.p 16 0), .s (.p 17 0), .s (.p 19 0), .s (.p 18 0)]) :: (19, .box 95 [.v (.func (.func 85) #[] #[])]) :: (18, .box 3 [.int .i64 load]) :: (17, .box 86 [.int .i64 p.1, .int .i64 p.2]) :: (16, .box 78 (xR b gm)) :: (15, .box 4 [.bool false]) :: (14, .box 3 [.int .i64 0]) :: (13, .box 95 [.v (.func (.func 85) #[] #[])]) :: (12, .box 86 [.int .i64 p.1, .int .i64 p.2]) :: (11, .box 78 (xR b gm)) :: (roX b ((5, mapF gm (fkL b.fw) fkKey fkVal) :: hp5))), 21, []⟩ (.s (.ref 20)) (by kernel_rfl) (goes_of (by kernel_rfl)) (by kernel_rfl) (by kernel_rfl) (more_ext 5 (by kernel_rfl) (by kernel_rfl) (by kernel_rfl)) ⟨(by kernel_rfl), (by kernel_rfl), (by kernel_rfl)⟩ (dep_okU16 (H := ((15, .box 4 [.bool false]) :: (14, .box 3 [.int .i64 0]) :: (13, .box 95 [.v (.func (.func 85) #[] #[])]) :: (12, .box 86 [.int .i64 p.1, .int .i64 p.2]) :: (11, .box 78 (xR b gm)) :: (roX b ((5, mapF gm (fkL b.fw) fkKey fkVal) :: hp5)))) (by kernel_rfl) (by kernel_rfl) (by kernel_rfl) (by kernel_rfl)) ?_
 refine WPO_nil ?_
 refine WP_block ?_
 refine WP_le (Le_addT (([] : List Int) = []) rfl) ?_
 refine WP_le (s' := ⟨18, [(9, [], .s (.p 15 0)), (8, [], .s (.p 14 0)), (15, [], .s (.ref 20))], ((21, jT (([] : List Int) = [])) :: (20, .clo 112 [] [.s (.p 16 0), .s (.p 17 0), .s (.p 19 0), .s (.p 18 0)]) :: (19, .box 95 [.v (.func (.func 85) #[] #[])]) :: (18, .box 3 [.int .i64 load]) :: (17, .box 86 [.int .i64 p.1, .int .i64 p.2]) :: (16, .box 78 (xR b gm)) :: (15, .box 4 [.bool false]) :: (14, .box 3 [.int .i64 0]) :: (13, .box 95 [.v (.func (.func 85) #[] #[])]) :: (12, .box 86 [.int .i64 p.1, .int .i64 p.2]) :: (11, .box 78 (xR b gm)) :: (roX b ((5, mapF gm (fkL b.fw) fkKey fkVal) :: hp5))), 22, []⟩) (Le_sel (ts := [9, 8, 15]) (ids := [21, 20, 19, 18, 17, 16, 15, 14, 13, 12, 11, 0, 1, 2, 3, 4, 5, 6, 7, 8, 9, 10]) (nx := 22) (by kernel_rfl)) ?_
 refine WP_range tt_ok rfl (depX b p load true) encH (fun x : Int => ([.s (ai x)] : List AV)) [9, 8] [(9, [], .s (.p 15 0)), (8, [], .s (.p 14 0))] 20 112 [.s (.p 16 0), .s (.p 17 0), .s (.p 19 0), .s (.p 18 0)] (fun pre => [(21, jT ((pre : List Int) = [])), (15, .box 4 [.bool false]), (14, .box 3 [.int .i64 0]), (13, .box 95 [.v (.func (.func 85) #[] #[])]), (12, .box 86 [.int .i64 p.1, .int .i64 p.2]), (11, .box 78 (xR b gm))]) (fun c pre => match c with | .ret => some [(21, jT (∃ y : Int, (pre : List Int) = [y])), (15, .box 4 [.bool true]), (14, .box 3 [.int .i64 (lastI (pre))]), (13, .box 95 [.v (.func (.func 85) #[] #[])]), (12, .box 86 [.int .i64 p.1, .int .i64 p.2]), (11, .box 78 (xR b gm))] | _ => none) [(16, .box 78 (xR b gm)), (17, .box 86 [.int .i64 p.1, .int .i64 p.2]), (19, .box 95 [.v (.func (.func 85) #[] #[])]), (18, .box 3 [.int .i64 load])] (roX b ((5, mapF gm (fkL b.fw) fkKey fkVal) :: hp5)) (by kernel_rfl) (by kernel_rfl) (goes_of (by kernel_rfl)) (by kernel_rfl) (by repeat (first | exact trivial | refine ⟨by kernel_rfl, ?_⟩)) (by kernel_rfl) (fun pre => (by kernel_rfl)) (fun c pre Mr h => by cases c <;> first | (cases h; kernel_rfl) | (cases h; done)) (by kernel_rfl) (fun x n => rfl) (fun x => rfl) (fun x v hv => by simp only [List.mem_singleton] at hv; rw [hv]; rfl) (fun v hv => by simp at hv; rcases hv with rfl | rfl | rfl | rfl <;> kernel_rfl) (dep_iterU b p load gm (by assumption)) ?round ?done ?stop
 case round =>
  intro pre x hpre w0 ok n0 L D FL FB hn0
  refine ⟨⟨18, [(16, [], .s (.int .i64 x)), (9, [], .s (.p 15 0)), (8, [], .s (.p 14 0))], ((22, eL L FL) :: (23, eD D) :: (21, jT ((pre : List Int) = [])) :: (15, .box 4 [.bool false]) :: (14, .box 3 [.int .i64 0]) :: (13, .box 95 [.v (.func (.func 85) #[] #[])]) :: (12, .box 86 [.int .i64 p.1, .int .i64 p.2]) :: (11, .box 78 (xR b gm)) :: (roX b ((5, mapF gm (fkL b.fw) fkKey fkVal) :: hp5))), 24, []⟩, by kernel_rfl, ?_⟩
  refine WRA tt_ok ?_
  refine ⟨by kernel_rfl, ?_⟩
  refine WP_block ?_
  refine WSA tt_ok ?_
  refine WP_ret ?_
  refine ⟨_, rfl, ?_⟩
  simp only [lastI_snoc]
  refine Le.trans (Le_T (id := 21) (∃ y : Int, (pre ++ [x] : List Int) = [y]) (by kernel_rfl) (fun (h : (pre : List Int) = []) => ⟨x, by rw [h]; rfl⟩)) ?_
  exact Le_sel (ts := []) (ids := [22, 23, 21, 15, 14, 13, 12, 11, 0, 1, 2, 3, 4, 5, 6, 7, 8, 9, 10]) (nx := 24) (by kernel_rfl)
 case stop =>
  intro D c pre Mr h hpre
  cases c <;> try (cases h; done)
  cases h
  refine WP_T (id := 21) (p := ∃ y : Int, pre = [y]) (by kernel_rfl) (fun hst => ?_)
  refine WP_ret ?_
  exact .inr ⟨.t [(false, [.int .i64 (lastI (pre))]), (false, [.bool true])], D, 23, by kernel_rfl, by kernel_rfl, by kernel_rfl, fun nV w' h => ⟨by rw [show firstU b p load = (lastI (pre), true) from by unfold firstU; exact first_stop hpre hst]; rfl, h.bel⟩⟩
 case done =>
  intro D
  refine WP_T (id := 21) (p := (depX b p load true) = []) (by kernel_rfl) (fun hok => ?_)
  refine WSA tt_ok ?_
  refine WP_ret ?_
  exact .inr ⟨.t [(false, [.int .i64 0]), (false, [.bool false])], D, 23, by kernel_rfl, by kernel_rfl, by kernel_rfl, fun nV w' h => ⟨by rw [show firstU b p load = (0, false) from by unfold firstU; rw [hok]; rfl]; rfl, h.bel⟩⟩
def firstD (b : XBook) (p : Int × Int) (load : Int) : Int × Bool := firstQ (depX b p load false)
theorem firstD_calls (g0 g1 g2 g3 g4 : Value) (gm : Nat) (b : XBook) (p : Int × Int) (load : Int) (w : World) (r0 : Reads w g0 2 b.lan.tides encSpan zSpan) (r1 : Reads w g1 3 b.lan.sounds encSound zSound) (r2 : Reads w g2 5 b.fw.ships encShip zShip) (r3 : Reads w g3 4 b.fw.sights encSight zSight) (r4 : Reads w g4 2 b.trips encTrip zTrip) (hm : w.heap[gm]? = some (.map (ents (fkL b.fw) fkKey fkVal) (fkL b.fw).length)) (hun : UnknownAt w) (hnw0 : NowhereAt w) (hla : LAsksAt w) (hsd : SidesAt w) (hxn : XNowhereAt w) (he : 1 ≤ b.each) : Calls Tryd.prog 84 #[.agg ((lanV g0 b.lan [g1, g2, iv b.fw.hear.lo, iv b.fw.hear.hi, iv b.fw.br, iv b.fw.cr, iv b.fw.sl, g3, iv b.each, iv b.shore, iv b.turn, g4, .map (some gm)]).toArray), .agg #[iv p.1, iv p.2], iv load, .agg #[.func (.func 86) #[] #[]]] w fun e w' => e = .returned (.tuple #[iv (firstD b p load).1, .bool (firstD b p load).2]) ∧ Below w.heap.size w w' := by
 refine calls_of_WPM (cx := cx0 w (vn [g0, g1, g2, g3, g4]) 5) (n := vn [g0, g1, g2, g3, g4]) (vs := [.g (xR b gm), .g [.int .i64 p.1, .int .i64 p.2], .s (.int .i64 load), .g [.v (.func (.func 86) #[] #[])]]) (hp := (roX b ((5, mapF gm (fkL b.fw) fkKey fkVal) :: hp5))) (nx := 11) tt_ok Tryd.func84 rfl rfl rfl (by kernel_rfl) (HSat_args (vn_one (by simp [r0.one, r1.one, r2.one, r3.one, r4.one])) (by decide) ⟨ro_in r0, ro_in r1, ro_in r2, ro_in r3, ro_in r4, ⟨⟨hm, fun w1 w2 h1 hw => (hw gm rfl).trans h1, fun g hg => by cases hg; exact (Array.getElem?_eq_some_iff.1 hm).1⟩, (Nat.le_of_ble_eq_true rfl)⟩, pf_in hun, pf_in hnw0, pf_in hla, pf_in hsd, pf_in hxn, trivial⟩) (vsOk (by kernel_rfl)) ?_
 have hl0 := Reads.len r0
 have hl1 := Reads.len r1
 have hl2 := Reads.len r2
 have hl3 := Reads.len r3
 have hl4 := Reads.len r4
 refine WSA tt_ok ?_
 refine WP_seq (WP_seq (WP_region (WPO_run tt_ok 4 (by kernel_rfl) ?_)))
 refine CALLN 101 [.g (xR b gm), .g [.int .i64 p.1, .int .i64 p.2], .s (.int .i64 load), .g [.v (.func (.func 86) #[] #[])]] ⟨18, [(14, [], .g [.v (.func (.func 86) #[] #[])]), (13, [], .s (.int .i64 load)), (12, [], .g [.int .i64 p.1, .int .i64 p.2]), (11, [], .g (xR b gm)), (9, [], .s (.p 15 0)), (8, [], .s (.p 14 0)), (7, [], .s (.p 13 0)), (5, [], .s (.p 12 0)), (4, [], .s (.p 11 0)), (0, [], .g (xR b gm)), (1, [], .g [.int .i64 p.1, .int .i64 p.2]), (2, [], .s (.int .i64 load)), (3, [], .g [.v (.func (.func 86) #[] #[])])], ((20, .clo 112 [] [.s (.p 16 0), .s (.p 17 0), .s (.p 19 0), .s (.p 18 0)]) :: (19, .box 95 [.v (.func (.func 86) #[] #[])]) :: (18, .box 3 [.int .i64 load]) :: (17, .box 86 [.int .i64 p.1, .int .i64 p.2]) :: (16, .box 78 (xR b gm)) :: (15, .box 4 [.bool false]) :: (14, .box 3 [.int .i64 0]) :: (13, .box 95 [.v (.func (.func 86) #[] #[])]) :: (12, .box 86 [.int .i64 p.1, .int .i64 p.2]) :: (11, .box 78 (xR b gm)) :: (roX b ((5, mapF gm (fkL b.fw) fkKey fkVal) :: hp5))), 21, []⟩ (.s (.ref 20)) (by kernel_rfl) (goes_of (by kernel_rfl)) (by kernel_rfl) (by kernel_rfl) (more_ext 5 (by kernel_rfl) (by kernel_rfl) (by kernel_rfl)) ⟨(by kernel_rfl), (by kernel_rfl), (by kernel_rfl)⟩ (dep_okD16 (H := ((15, .box 4 [.bool false]) :: (14, .box 3 [.int .i64 0]) :: (13, .box 95 [.v (.func (.func 86) #[] #[])]) :: (12, .box 86 [.int .i64 p.1, .int .i64 p.2]) :: (11, .box 78 (xR b gm)) :: (roX b ((5, mapF gm (fkL b.fw) fkKey fkVal) :: hp5)))) (by kernel_rfl) (by kernel_rfl) (by kernel_rfl) (by kernel_rfl)) ?_
 refine WPO_nil ?_
 refine WP_block ?_
 refine WP_le (Le_addT (([] : List Int) = []) rfl) ?_
 refine WP_le (s' := ⟨18, [(9, [], .s (.p 15 0)), (8, [], .s (.p 14 0)), (15, [], .s (.ref 20))], ((21, jT (([] : List Int) = [])) :: (20, .clo 112 [] [.s (.p 16 0), .s (.p 17 0), .s (.p 19 0), .s (.p 18 0)]) :: (19, .box 95 [.v (.func (.func 86) #[] #[])]) :: (18, .box 3 [.int .i64 load]) :: (17, .box 86 [.int .i64 p.1, .int .i64 p.2]) :: (16, .box 78 (xR b gm)) :: (15, .box 4 [.bool false]) :: (14, .box 3 [.int .i64 0]) :: (13, .box 95 [.v (.func (.func 86) #[] #[])]) :: (12, .box 86 [.int .i64 p.1, .int .i64 p.2]) :: (11, .box 78 (xR b gm)) :: (roX b ((5, mapF gm (fkL b.fw) fkKey fkVal) :: hp5))), 22, []⟩) (Le_sel (ts := [9, 8, 15]) (ids := [21, 20, 19, 18, 17, 16, 15, 14, 13, 12, 11, 0, 1, 2, 3, 4, 5, 6, 7, 8, 9, 10]) (nx := 22) (by kernel_rfl)) ?_
 refine WP_range tt_ok rfl (depX b p load false) encH (fun x : Int => ([.s (ai x)] : List AV)) [9, 8] [(9, [], .s (.p 15 0)), (8, [], .s (.p 14 0))] 20 112 [.s (.p 16 0), .s (.p 17 0), .s (.p 19 0), .s (.p 18 0)] (fun pre => [(21, jT ((pre : List Int) = [])), (15, .box 4 [.bool false]), (14, .box 3 [.int .i64 0]), (13, .box 95 [.v (.func (.func 86) #[] #[])]), (12, .box 86 [.int .i64 p.1, .int .i64 p.2]), (11, .box 78 (xR b gm))]) (fun c pre => match c with | .ret => some [(21, jT (∃ y : Int, (pre : List Int) = [y])), (15, .box 4 [.bool true]), (14, .box 3 [.int .i64 (lastI (pre))]), (13, .box 95 [.v (.func (.func 86) #[] #[])]), (12, .box 86 [.int .i64 p.1, .int .i64 p.2]), (11, .box 78 (xR b gm))] | _ => none) [(16, .box 78 (xR b gm)), (17, .box 86 [.int .i64 p.1, .int .i64 p.2]), (19, .box 95 [.v (.func (.func 86) #[] #[])]), (18, .box 3 [.int .i64 load])] (roX b ((5, mapF gm (fkL b.fw) fkKey fkVal) :: hp5)) (by kernel_rfl) (by kernel_rfl) (goes_of (by kernel_rfl)) (by kernel_rfl) (by repeat (first | exact trivial | refine ⟨by kernel_rfl, ?_⟩)) (by kernel_rfl) (fun pre => (by kernel_rfl)) (fun c pre Mr h => by cases c <;> first | (cases h; kernel_rfl) | (cases h; done)) (by kernel_rfl) (fun x n => rfl) (fun x => rfl) (fun x v hv => by simp only [List.mem_singleton] at hv; rw [hv]; rfl) (fun v hv => by simp at hv; rcases hv with rfl | rfl | rfl | rfl <;> kernel_rfl) (dep_iterD b p load gm (by assumption)) ?round ?done ?stop
 case round =>
  intro pre x hpre w0 ok n0 L D FL FB hn0
  refine ⟨⟨18, [(16, [], .s (.int .i64 x)), (9, [], .s (.p 15 0)), (8, [], .s (.p 14 0))], ((22, eL L FL) :: (23, eD D) :: (21, jT ((pre : List Int) = [])) :: (15, .box 4 [.bool false]) :: (14, .box 3 [.int .i64 0]) :: (13, .box 95 [.v (.func (.func 86) #[] #[])]) :: (12, .box 86 [.int .i64 p.1, .int .i64 p.2]) :: (11, .box 78 (xR b gm)) :: (roX b ((5, mapF gm (fkL b.fw) fkKey fkVal) :: hp5))), 24, []⟩, by kernel_rfl, ?_⟩
  refine WRA tt_ok ?_
  refine ⟨by kernel_rfl, ?_⟩
  refine WP_block ?_
  refine WSA tt_ok ?_
  refine WP_ret ?_
  refine ⟨_, rfl, ?_⟩
  simp only [lastI_snoc]
  refine Le.trans (Le_T (id := 21) (∃ y : Int, (pre ++ [x] : List Int) = [y]) (by kernel_rfl) (fun (h : (pre : List Int) = []) => ⟨x, by rw [h]; rfl⟩)) ?_
  exact Le_sel (ts := []) (ids := [22, 23, 21, 15, 14, 13, 12, 11, 0, 1, 2, 3, 4, 5, 6, 7, 8, 9, 10]) (nx := 24) (by kernel_rfl)
 case stop =>
  intro D c pre Mr h hpre
  cases c <;> try (cases h; done)
  cases h
  refine WP_T (id := 21) (p := ∃ y : Int, pre = [y]) (by kernel_rfl) (fun hst => ?_)
  refine WP_ret ?_
  exact .inr ⟨.t [(false, [.int .i64 (lastI (pre))]), (false, [.bool true])], D, 23, by kernel_rfl, by kernel_rfl, by kernel_rfl, fun nV w' h => ⟨by rw [show firstD b p load = (lastI (pre), true) from by unfold firstD; exact first_stop hpre hst]; rfl, h.bel⟩⟩
 case done =>
  intro D
  refine WP_T (id := 21) (p := (depX b p load false) = []) (by kernel_rfl) (fun hok => ?_)
  refine WSA tt_ok ?_
  refine WP_ret ?_
  exact .inr ⟨.t [(false, [.int .i64 0]), (false, [.bool false])], D, 23, by kernel_rfl, by kernel_rfl, by kernel_rfl, fun nV w' h => ⟨by rw [show firstD b p load = (0, false) from by unfold firstD; rw [hok]; rfl]; rfl, h.bel⟩⟩
def rightX (b : XBook) : Bool := (rightL b.lan).1 && (rightA b.fw).1
def errX (b : XBook) (isv : Bool) : Int := if checkX b = 0 then (if isv then (if rightX b then 0 else 92) else 91) else checkX b
theorem errX_ok {b : XBook} {isv : Bool} : errX b isv = 0 ↔ checkX b = 0 ∧ isv = true ∧ rightX b = true := by
 unfold errX
 by_cases h1 : checkX b = 0
 ·rw [if_pos h1]
  cases isv
  ·simp
  cases rightX b <;> simp [h1]
 rw [if_neg h1]
 exact ⟨fun h => absurd h h1, fun h => absurd h.1 h1⟩
theorem errX_ne {b : XBook} {isv : Bool} (h : (errX b isv == 0) = false) : (errX b isv != 0) = true := by rw [bne, h]; rfl
theorem errX_eq {b : XBook} {isv : Bool} (h : (errX b isv == 0) = true) : (errX b isv != 0) = false := by rw [bne, h]; rfl
theorem not_right {b : XBook} (h : rightX b = false) : (!(rightL b.lan).1 || !(rightA b.fw).1) = true := by
 unfold rightX at h
 revert h
 cases (rightL b.lan).1 <;> cases (rightA b.fw).1 <;> simp
theorem is_right {b : XBook} (h : rightX b = true) : (!(rightL b.lan).1 || !(rightA b.fw).1) = false := by
 unfold rightX at h
 revert h
 cases (rightL b.lan).1 <;> cases (rightA b.fw).1 <;> simp
theorem askedX_bad_calls (g0 g1 g2 g3 g4 : Value) (b : XBook) (isv : Bool) (w : World) (r0 : Reads w g0 2 b.lan.tides encSpan zSpan) (r1 : Reads w g1 3 b.lan.sounds encSound zSound) (r2 : Reads w g2 5 b.fw.ships encShip zShip) (r3 : Reads w g3 4 b.fw.sights encSight zSight) (r4 : Reads w g4 2 b.trips encTrip zTrip) (ha : AsksAt w) (hun : UnknownAt w) (hnw0 : NowhereAt w) (hxn : XNowhereAt w) (hq1 : checkX b ≠ 0) : Calls Tryd.prog 45 #[.agg ((xV g0 b g1 g2 g3 g4).toArray), .bool isv] w fun e w' => e = .returned (.tuple #[.agg #[.slice none 0 0, iv 0, iv 0, iv 0, iv 0, iv 0, iv 0, iv 0, iv 0, iv 0, iv 0, iv 0, iv 0, .slice none 0 0, .slice none 0 0, iv 0, iv 0, iv 0, iv 0, iv 0, .slice none 0 0, iv 0, iv 0, iv 0, .slice none 0 0, .map none], iv (checkX b)]) ∧ Below w.heap.size w w' := by
 refine CW tt_ok [g0, g1, g2, g3, g4] 5 [.g (xQ b), .s (.bool isv)] (roX b [(5, .pf AsksAt (· = 5)), (6, .pf UnknownAt (· = 4)), (7, .pf NowhereAt (· = 3)), (8, .pf XNowhereAt (· = 2))]) 9 Tryd.func45 rfl rfl rfl (by simp [r0.one, r1.one, r2.one, r3.one, r4.one]) ⟨ro_in r0, ro_in r1, ro_in r2, ro_in r3, ro_in r4, pf_in ha, pf_in hun, pf_in hnw0, pf_in hxn, trivial⟩ ?_
 have hl0 := Reads.len r0
 have hl1 := Reads.len r1
 have hl2 := Reads.len r2
 have hl3 := Reads.len r3
 have hl4 := Reads.len r4
 refine WSA tt_ok ?_
 refine WP_seq (WP_seq (WP_region (WPO_run tt_ok 1 (by kernel_rfl) ?_)))
 refine CAL 39 [.g (xQ b)] (.s (.int .i64 (checkX b))) [] (fun hG nV w h => checkX_calls (nV 0) (nV 1) (nV 2) (nV 3) (nV 4) b w (h.rd 0 24) (h.rd 1 112) (h.rd 2 103) (h.rd 3 105) (h.rd 4 60) ) ?_
 refine WPA tt_ok ?_
 refine WSA tt_ok ?_
 refine WP_cond ((checkX b) != 0) (by kernel_rfl) (fun hc1 => ?_) (fun h => by rw [(show ((checkX b) != 0) = true from by simpa using hq1)] at h; cases h)
 refine WSA tt_ok ?_
 refine WP_ret ?_
 exact ⟨.t [(true, zX), (false, [.int .i64 (checkX b)])], by kernel_rfl, fun nV w' h => ⟨rfl, h.bel⟩⟩
theorem askedX_ask_calls (g0 g1 g2 g3 g4 : Value) (b : XBook) (isv : Bool) (w : World) (r0 : Reads w g0 2 b.lan.tides encSpan zSpan) (r1 : Reads w g1 3 b.lan.sounds encSound zSound) (r2 : Reads w g2 5 b.fw.ships encShip zShip) (r3 : Reads w g3 4 b.fw.sights encSight zSight) (r4 : Reads w g4 2 b.trips encTrip zTrip) (ha : AsksAt w) (hun : UnknownAt w) (hnw0 : NowhereAt w) (hxn : XNowhereAt w) (hq1 : checkX b = 0) (hq2 : isv = false) : Calls Tryd.prog 45 #[.agg ((xV g0 b g1 g2 g3 g4).toArray), .bool isv] w fun e w' => e = .returned (.tuple #[.agg #[.slice none 0 0, iv 0, iv 0, iv 0, iv 0, iv 0, iv 0, iv 0, iv 0, iv 0, iv 0, iv 0, iv 0, .slice none 0 0, .slice none 0 0, iv 0, iv 0, iv 0, iv 0, iv 0, .slice none 0 0, iv 0, iv 0, iv 0, .slice none 0 0, .map none], iv (91)]) ∧ Below w.heap.size w w' := by
 refine CW tt_ok [g0, g1, g2, g3, g4] 5 [.g (xQ b), .s (.bool isv)] (roX b [(5, .pf AsksAt (· = 5)), (6, .pf UnknownAt (· = 4)), (7, .pf NowhereAt (· = 3)), (8, .pf XNowhereAt (· = 2))]) 9 Tryd.func45 rfl rfl rfl (by simp [r0.one, r1.one, r2.one, r3.one, r4.one]) ⟨ro_in r0, ro_in r1, ro_in r2, ro_in r3, ro_in r4, pf_in ha, pf_in hun, pf_in hnw0, pf_in hxn, trivial⟩ ?_
 have hl0 := Reads.len r0
 have hl1 := Reads.len r1
 have hl2 := Reads.len r2
 have hl3 := Reads.len r3
 have hl4 := Reads.len r4
 refine WSA tt_ok ?_
 refine WP_seq (WP_seq (WP_region (WPO_run tt_ok 1 (by kernel_rfl) ?_)))
 refine CAL 39 [.g (xQ b)] (.s (.int .i64 (checkX b))) [] (fun hG nV w h => checkX_calls (nV 0) (nV 1) (nV 2) (nV 3) (nV 4) b w (h.rd 0 24) (h.rd 1 112) (h.rd 2 103) (h.rd 3 105) (h.rd 4 60) ) ?_
 refine WPA tt_ok ?_
 refine WSA tt_ok ?_
 refine WP_cond ((checkX b) != 0) (by kernel_rfl) (fun h => by rw [(show ((checkX b) != 0) = false from by rw [hq1]; rfl)] at h; cases h) (fun hc1 => ?_)
 refine WP_skip ?_
 refine WP_seq (WSA tt_ok ?_)
 refine WP_cond (!isv) (by kernel_rfl) (fun hc2 => ?_) (fun h => by rw [(show (!isv) = true from by rw [hq2]; rfl)] at h; cases h)
 refine WSA tt_ok ?_
 refine WP_ret ?_
 exact ⟨.t [(true, zX), (false, [.int .i64 91])], by kernel_rfl, fun nV w' h => ⟨rfl, h.bel⟩⟩
theorem askedX_fal_calls (g0 g1 g2 g3 g4 : Value) (b : XBook) (isv : Bool) (w : World) (r0 : Reads w g0 2 b.lan.tides encSpan zSpan) (r1 : Reads w g1 3 b.lan.sounds encSound zSound) (r2 : Reads w g2 5 b.fw.ships encShip zShip) (r3 : Reads w g3 4 b.fw.sights encSight zSight) (r4 : Reads w g4 2 b.trips encTrip zTrip) (ha : AsksAt w) (hun : UnknownAt w) (hnw0 : NowhereAt w) (hxn : XNowhereAt w) (hq1 : checkX b = 0) (hq2 : isv = true) (hq3 : rightX b = false) : Calls Tryd.prog 45 #[.agg ((xV g0 b g1 g2 g3 g4).toArray), .bool isv] w fun e w' => e = .returned (.tuple #[.agg #[.slice none 0 0, iv 0, iv 0, iv 0, iv 0, iv 0, iv 0, iv 0, iv 0, iv 0, iv 0, iv 0, iv 0, .slice none 0 0, .slice none 0 0, iv 0, iv 0, iv 0, iv 0, iv 0, .slice none 0 0, iv 0, iv 0, iv 0, .slice none 0 0, .map none], iv (92)]) ∧ Below w.heap.size w w' := by
 refine CW tt_ok [g0, g1, g2, g3, g4] 5 [.g (xQ b), .s (.bool isv)] (roX b [(5, .pf AsksAt (· = 5)), (6, .pf UnknownAt (· = 4)), (7, .pf NowhereAt (· = 3)), (8, .pf XNowhereAt (· = 2))]) 9 Tryd.func45 rfl rfl rfl (by simp [r0.one, r1.one, r2.one, r3.one, r4.one]) ⟨ro_in r0, ro_in r1, ro_in r2, ro_in r3, ro_in r4, pf_in ha, pf_in hun, pf_in hnw0, pf_in hxn, trivial⟩ ?_
 have hl0 := Reads.len r0
 have hl1 := Reads.len r1
 have hl2 := Reads.len r2
 have hl3 := Reads.len r3
 have hl4 := Reads.len r4
 refine WSA tt_ok ?_
 refine WP_seq (WP_seq (WP_region (WPO_run tt_ok 1 (by kernel_rfl) ?_)))
 refine CAL 39 [.g (xQ b)] (.s (.int .i64 (checkX b))) [] (fun hG nV w h => checkX_calls (nV 0) (nV 1) (nV 2) (nV 3) (nV 4) b w (h.rd 0 24) (h.rd 1 112) (h.rd 2 103) (h.rd 3 105) (h.rd 4 60) ) ?_
 refine WPA tt_ok ?_
 refine WSA tt_ok ?_
 refine WP_cond ((checkX b) != 0) (by kernel_rfl) (fun h => by rw [(show ((checkX b) != 0) = false from by rw [hq1]; rfl)] at h; cases h) (fun hc1 => ?_)
 refine WP_skip ?_
 refine WP_seq (WSA tt_ok ?_)
 refine WP_cond (!isv) (by kernel_rfl) (fun h => by rw [(show (!isv) = false from by rw [hq2]; rfl)] at h; cases h) (fun hc2 => ?_)
 refine WP_skip ?_
 refine WSR tt_ok 2 ?_
 refine CAL 52 [.g (lR b.lan)] (.t [(false, [.bool (rightL b.lan).1]), (false, [.int .i64 (rightL b.lan).2])]) [] (fun hG nV w h => rightL_calls (nV 0) (nV 1) b.lan w (h.rd 0 24) (h.rd 1 112) (h.ft 6 4) (h.ft 7 3) ) ?_
 refine WPA tt_ok ?_
 refine WSR tt_ok 2 ?_
 refine CAL 53 [.g [.ref 2, .int .i64 b.fw.hear.lo, .int .i64 b.fw.hear.hi, .int .i64 b.fw.br, .int .i64 b.fw.cr, .int .i64 b.fw.sl, .ref 3]] (.t [(false, [.bool (rightA b.fw).1]), (false, [.int .i64 (rightA b.fw).2])]) [] (fun hG nV w h => rightA_calls (nV 2) (nV 3) b.fw w (h.rd 2 103) (h.rd 3 105) ) ?_
 refine WPA tt_ok ?_
 refine WP_seq (WSA tt_ok ?_)
 refine WP_cond ((!(rightL b.lan).1) || (!(rightA b.fw).1)) (by kernel_rfl) (fun hc3 => ?_) (fun h => by rw [(not_right hq3)] at h; cases h)
 refine WSA tt_ok ?_
 refine WP_ret ?_
 exact ⟨.t [(true, zX), (false, [.int .i64 92])], by kernel_rfl, fun nV w' h => ⟨rfl, h.bel⟩⟩
theorem askedX_ok_calls (g0 g1 g2 g3 g4 : Value) (b : XBook) (isv : Bool) (w : World) (r0 : Reads w g0 2 b.lan.tides encSpan zSpan) (r1 : Reads w g1 3 b.lan.sounds encSound zSound) (r2 : Reads w g2 5 b.fw.ships encShip zShip) (r3 : Reads w g3 4 b.fw.sights encSight zSight) (r4 : Reads w g4 2 b.trips encTrip zTrip) (ha : AsksAt w) (hun : UnknownAt w) (hnw0 : NowhereAt w) (hxn : XNowhereAt w) (hq1 : checkX b = 0) (hq2 : isv = true) (hq3 : rightX b = true) : Calls Tryd.prog 45 #[.agg ((xV g0 b g1 g2 g3 g4).toArray), .bool isv] w fun e w' => ∃ gm, e = .returned (.tuple #[.agg ((lanV g0 b.lan [g1, g2, iv b.fw.hear.lo, iv b.fw.hear.hi, iv b.fw.br, iv b.fw.cr, iv b.fw.sl, g3, iv b.each, iv b.shore, iv b.turn, g4, .map (some gm)]).toArray), iv 0]) ∧ Below w.heap.size w w' ∧ w.heap.size ≤ gm ∧ w'.heap[gm]? = some (.map (ents (fkL b.fw) fkKey fkVal) (fkL b.fw).length) := by
 refine CW tt_ok [g0, g1, g2, g3, g4] 5 [.g (xQ b), .s (.bool isv)] (roX b [(5, .pf AsksAt (· = 5)), (6, .pf UnknownAt (· = 4)), (7, .pf NowhereAt (· = 3)), (8, .pf XNowhereAt (· = 2))]) 9 Tryd.func45 rfl rfl rfl (by simp [r0.one, r1.one, r2.one, r3.one, r4.one]) ⟨ro_in r0, ro_in r1, ro_in r2, ro_in r3, ro_in r4, pf_in ha, pf_in hun, pf_in hnw0, pf_in hxn, trivial⟩ ?_
 have hl0 := Reads.len r0
 have hl1 := Reads.len r1
 have hl2 := Reads.len r2
 have hl3 := Reads.len r3
 have hl4 := Reads.len r4
 refine WSA tt_ok ?_
 refine WP_seq (WP_seq (WP_region (WPO_run tt_ok 1 (by kernel_rfl) ?_)))
 refine CAL 39 [.g (xQ b)] (.s (.int .i64 (checkX b))) [] (fun hG nV w h => checkX_calls (nV 0) (nV 1) (nV 2) (nV 3) (nV 4) b w (h.rd 0 24) (h.rd 1 112) (h.rd 2 103) (h.rd 3 105) (h.rd 4 60) ) ?_
 refine WPA tt_ok ?_
 refine WSA tt_ok ?_
 refine WP_cond ((checkX b) != 0) (by kernel_rfl) (fun h => by rw [(show ((checkX b) != 0) = false from by rw [hq1]; rfl)] at h; cases h) (fun hc1 => ?_)
 refine WP_skip ?_
 refine WP_seq (WSA tt_ok ?_)
 refine WP_cond (!isv) (by kernel_rfl) (fun h => by rw [(show (!isv) = false from by rw [hq2]; rfl)] at h; cases h) (fun hc2 => ?_)
 refine WP_skip ?_
 refine WSR tt_ok 2 ?_
 refine CAL 52 [.g (lR b.lan)] (.t [(false, [.bool (rightL b.lan).1]), (false, [.int .i64 (rightL b.lan).2])]) [] (fun hG nV w h => rightL_calls (nV 0) (nV 1) b.lan w (h.rd 0 24) (h.rd 1 112) (h.ft 6 4) (h.ft 7 3) ) ?_
 refine WPA tt_ok ?_
 refine WSR tt_ok 2 ?_
 refine CAL 53 [.g [.ref 2, .int .i64 b.fw.hear.lo, .int .i64 b.fw.hear.hi, .int .i64 b.fw.br, .int .i64 b.fw.cr, .int .i64 b.fw.sl, .ref 3]] (.t [(false, [.bool (rightA b.fw).1]), (false, [.int .i64 (rightA b.fw).2])]) [] (fun hG nV w h => rightA_calls (nV 2) (nV 3) b.fw w (h.rd 2 103) (h.rd 3 105) ) ?_
 refine WPA tt_ok ?_
 refine WP_seq (WSA tt_ok ?_)
 refine WP_cond ((!(rightL b.lan).1) || (!(rightA b.fw).1)) (by kernel_rfl) (fun h => by rw [(is_right hq3)] at h; cases h) (fun hc3 => ?_)
 refine WP_skip ?_
 refine WSR tt_ok 1 ?_
 refine CALLMAP 61 [.g (xQ b)] (fkL b.fw) fkKey fkVal (fun gM1 => .g (xR b gM1)) (by kernel_rfl) (goes_of (by kernel_rfl)) (fun _ => (by kernel_rfl)) (fun _ => (by kernel_rfl)) (fun _ n n1 h => (AV.c_congr (okB_sound (by kernel_rfl)) h).symm) (fun nV w h => opened_fkL (nV 0) (nV 1) (nV 2) (nV 3) (nV 4) b w (h.rd 0 24) (h.rd 1 112) (h.rd 2 103) (h.rd 3 105) (h.rd 4 60) (h.ft 5 5) (h.ft 8 2)) (fun gM1 => ?_)
 refine WPA tt_ok ?_
 refine WP_ret ?_
 exact ⟨.t [(true, (xR b gM1)), (false, [.int .i64 0])], by kernel_rfl, fun nV w' h => ⟨gM1, by have e0 : nV 0 = g0 := h.ini 0 (by show 0 < 5; decide); have e1 : nV 1 = g1 := h.ini 1 (by show 1 < 5; decide); have e2 : nV 2 = g2 := h.ini 2 (by show 2 < 5; decide); have e3 : nV 3 = g3 := h.ini 3 (by show 3 < 5; decide); have e4 : nV 4 = g4 := h.ini 4 (by show 4 < 5; decide); rw [← e0, ← e1, ← e2, ← e3, ← e4]; rfl, h.bel, (h.ents (11, mapE gM1 (fkL b.fw) fkKey fkVal) (fnd_mem (by kernel_rfl))).2.1 gM1 rfl, (h.ents (11, mapE gM1 (fkL b.fw) fkKey fkVal) (fnd_mem (by kernel_rfl))).1⟩⟩
theorem askedX_no (g0 g1 g2 g3 g4 : Value) (b : XBook) (isv : Bool) (w : World) (r0 : Reads w g0 2 b.lan.tides encSpan zSpan) (r1 : Reads w g1 3 b.lan.sounds encSound zSound) (r2 : Reads w g2 5 b.fw.ships encShip zShip) (r3 : Reads w g3 4 b.fw.sights encSight zSight) (r4 : Reads w g4 2 b.trips encTrip zTrip) (ha : AsksAt w) (hun : UnknownAt w) (hnw0 : NowhereAt w) (hxn : XNowhereAt w) (hq : (errX b isv == 0) = false) : Calls Tryd.prog 45 #[.agg ((xV g0 b g1 g2 g3 g4).toArray), .bool isv] w fun e w' => e = .returned (.tuple #[.agg #[.slice none 0 0, iv 0, iv 0, iv 0, iv 0, iv 0, iv 0, iv 0, iv 0, iv 0, iv 0, iv 0, iv 0, .slice none 0 0, .slice none 0 0, iv 0, iv 0, iv 0, iv 0, iv 0, .slice none 0 0, iv 0, iv 0, iv 0, .slice none 0 0, .map none], iv (errX b isv)]) ∧ Below w.heap.size w w' := by
 unfold errX
 by_cases h1 : checkX b = 0
 ·rw [if_pos h1]
  cases h2 : isv with
  | false => exact askedX_ask_calls g0 g1 g2 g3 g4 b false w r0 r1 r2 r3 r4 ha hun hnw0 hxn h1 rfl
  | true =>
   cases h3 : rightX b with
   | false => exact askedX_fal_calls g0 g1 g2 g3 g4 b true w r0 r1 r2 r3 r4 ha hun hnw0 hxn h1 rfl h3
   | true =>
    have := errX_ok.2 ⟨h1, h2, h3⟩
    rw [this] at hq; cases hq
 rw [if_neg h1]
 exact askedX_bad_calls g0 g1 g2 g3 g4 b isv w r0 r1 r2 r3 r4 ha hun hnw0 hxn h1
theorem askedX_yes (g0 g1 g2 g3 g4 : Value) (b : XBook) (isv : Bool) (w : World) (r0 : Reads w g0 2 b.lan.tides encSpan zSpan) (r1 : Reads w g1 3 b.lan.sounds encSound zSound) (r2 : Reads w g2 5 b.fw.ships encShip zShip) (r3 : Reads w g3 4 b.fw.sights encSight zSight) (r4 : Reads w g4 2 b.trips encTrip zTrip) (ha : AsksAt w) (hun : UnknownAt w) (hnw0 : NowhereAt w) (hxn : XNowhereAt w) (hq : errX b isv = 0) : Calls Tryd.prog 45 #[.agg ((xV g0 b g1 g2 g3 g4).toArray), .bool isv] w fun e w' => ∃ gm, e = .returned (.tuple #[.agg ((lanV g0 b.lan [g1, g2, iv b.fw.hear.lo, iv b.fw.hear.hi, iv b.fw.br, iv b.fw.cr, iv b.fw.sl, g3, iv b.each, iv b.shore, iv b.turn, g4, .map (some gm)]).toArray), iv (errX b isv)]) ∧ Below w.heap.size w w' ∧ w.heap.size ≤ gm ∧ w'.heap[gm]? = some (.map (ents (fkL b.fw) fkKey fkVal) (fkL b.fw).length) := by
 obtain ⟨h1, h2, h3⟩ := errX_ok.1 hq
 rw [hq]
 exact askedX_ok_calls g0 g1 g2 g3 g4 b isv w r0 r1 r2 r3 r4 ha hun hnw0 hxn h1 h2 h3
structure ValidX (b : XBook) : Prop where
 lan : ValidL b.lan
 fw : Valid b.fw
 each : 1 ≤ b.each ∧ b.each ≤ 60
 shore : 0 ≤ b.shore ∧ b.shore ≤ 1
 turn : 0 ≤ b.turn ∧ b.turn ≤ 30
 nt : 1 ≤ b.trips.length ∧ b.trips.length ≤ 4
 trips : ∀ x ∈ b.trips, (0 ≤ x.load ∧ x.load ≤ 200) ∧ (0 ≤ x.ready ∧ x.ready ≤ 60)
theorem isLoadX_iff {n : Int} : isLoadX n = true ↔ 0 ≤ n ∧ n ≤ 200 := by unfold isLoadX withinX; simp [Bool.and_eq_true]
theorem isMinuteX_iff {n : Int} : isMinuteX n = true ↔ 0 ≤ n ∧ n ≤ 60 := by unfold isMinuteX withinX; simp [Bool.and_eq_true]
theorem isShoreX_iff {n : Int} : isShoreX n = true ↔ 0 ≤ n ∧ n ≤ 1 := by unfold isShoreX withinX; simp [Bool.and_eq_true]
def okTrip (x : Trip) : Bool := isLoadX x.load && isMinuteX x.ready
theorem checkX_eq (b : XBook) : checkX b = if ((((((((checkL b.lan) == 0) && ((checkW b.fw) == 0)) && (withinX b.each 1 60)) && (isShoreX b.shore)) && (withinX b.turn 0 30)) && (withinX (b.trips.length : Int) 1 4)) && (List.range b.trips.length).all fun k => okTrip (b.trips.getD k zTrip)) = true then 0 else 90 := by
 unfold checkX
 rw [loopR_and (fun k => okTrip (b.trips.getD k zTrip)) (fun k v hk => by simp only [checkX_c1]; rw [decide_eq_true]; omega) (fun k v hk => by simp only [checkX_b1, okTrip, Bool.and_assoc])]
 simp only
 cases (((((((checkL b.lan) == 0) && ((checkW b.fw) == 0)) && (withinX b.each 1 60)) && (isShoreX b.shore)) && (withinX b.turn 0 30)) && (withinX (b.trips.length : Int) 1 4)) && (List.range b.trips.length).all fun k => okTrip (b.trips.getD k zTrip) <;> rfl
theorem checkX_valid {b : XBook} : checkX b = 0 ↔ ValidX b := by
 have h : checkX b = 0 ↔ ((((((((checkL b.lan) == 0) && ((checkW b.fw) == 0)) && (withinX b.each 1 60)) && (isShoreX b.shore)) && (withinX b.turn 0 30)) && (withinX (b.trips.length : Int) 1 4)) && (List.range b.trips.length).all fun k => okTrip (b.trips.getD k zTrip)) = true := by
  rw [checkX_eq]; split
  ·rename_i h; exact ⟨fun _ => h, fun _ => rfl⟩
  rename_i h; exact ⟨fun h' => absurd h' (by decide), fun h' => absurd h' h⟩
 rw [h]
 simp only [Bool.and_eq_true, List.all_eq_true, List.mem_range, okTrip, isLoadX_iff, isMinuteX_iff, isShoreX_iff, beq_iff_eq, checkL_valid, check_valid]
 unfold withinX
 simp only [Bool.and_eq_true, decide_eq_true_eq]
 constructor
 ·rintro ⟨⟨⟨⟨⟨⟨h1, h2⟩, h3⟩, h4⟩, h5⟩, h6⟩, h7⟩
  refine ⟨h1, h2, h3, h4, h5, by omega, fun x hx => ?_⟩
  obtain ⟨k, hk, rfl⟩ := List.mem_iff_getElem.1 hx
  have := h7 k hk
  rw [List.getD_eq_getElem?_getD, List.getElem?_eq_getElem hk] at this
  exact this
 intro h
 exact ⟨⟨⟨⟨⟨⟨h.lan, h.fw⟩, h.each⟩, h.shore⟩, h.turn⟩, by have := h.nt; omega⟩, fun k hk => h.trips _ (getD_mem hk)⟩
def sureA (b : XBook) (shore : Int) (load : Int) (minute : Int) : Int × Int :=
 (bif errX b (((isShoreX shore) && (isLoadX load)) && (isMinuteX minute)) == 0 then (bif (errX b (((isShoreX shore) && (isLoadX load)) && (isMinuteX minute))) != 0 then ((leastX (clearA b.fw minute).1 ([(shoresX b (⟨shore, minute⟩ : (Int × Int)) load).1, (shoresX b (⟨shore, minute⟩ : (Int × Int)) load).2] : List Int)), 0) else ((leastX (clearA b.fw minute).1 ([(shoresX b (⟨shore, minute⟩ : (Int × Int)) load).1, (shoresX b (⟨shore, minute⟩ : (Int × Int)) load).2] : List Int)), 0)) else (bif (errX b (((isShoreX shore) && (isLoadX load)) && (isMinuteX minute))) != 0 then (0, errX b (((isShoreX shore) && (isLoadX load)) && (isMinuteX minute))) else (0, errX b (((isShoreX shore) && (isLoadX load)) && (isMinuteX minute)))))
theorem sureA_calls (g0 g1 g2 g3 g4 : Value) (b : XBook) (shore : Int) (load : Int) (minute : Int) (w : World) (r0 : Reads w g0 2 b.lan.tides encSpan zSpan) (r1 : Reads w g1 3 b.lan.sounds encSound zSound) (r2 : Reads w g2 5 b.fw.ships encShip zShip) (r3 : Reads w g3 4 b.fw.sights encSight zSight) (r4 : Reads w g4 2 b.trips encTrip zTrip) (ha : AsksAt w) (hun : UnknownAt w) (hnw0 : NowhereAt w) (hla : LAsksAt w) (hsd : SidesAt w) (hxn : XNowhereAt w) : Calls Tryd.prog 16 #[.agg ((xV g0 b g1 g2 g3 g4).toArray), iv shore, iv load, iv minute] w fun e w' => e = .returned (.tuple #[iv (sureA b shore load minute).1, iv (sureA b shore load minute).2]) ∧ Below w.heap.size w w' := by
 cases hq : (errX b (((isShoreX shore) && (isLoadX load)) && (isMinuteX minute)) == 0)
 ·refine CW tt_ok [g0, g1, g2, g3, g4] 5 [.g (xQ b), .s (.int .i64 shore), .s (.int .i64 load), .s (.int .i64 minute)] (roX b ((5, .pf AsksAt (· = 5)) :: hp5)) 11 Tryd.func16 rfl rfl rfl (by simp [r0.one, r1.one, r2.one, r3.one, r4.one]) ⟨ro_in r0, ro_in r1, ro_in r2, ro_in r3, ro_in r4, pf_in ha, pf_in hun, pf_in hnw0, pf_in hla, pf_in hsd, pf_in hxn, trivial⟩ ?_
  have hl0 := Reads.len r0
  have hl1 := Reads.len r1
  have hl2 := Reads.len r2
  have hl3 := Reads.len r3
  have hl4 := Reads.len r4
  refine WSA tt_ok ?_
  refine WP_seq (WP_toX (σ := Unit) (fun _ => ⟨49, [(11, [], .s (.int .i64 (errX b (((isShoreX shore) && (isLoadX load)) && (isMinuteX minute))))), (10, [], .s (.p 12 0)), (4, [], .s (.p 11 0)), (1, [], .s (.int .i64 shore)), (2, [], .s (.int .i64 load)), (3, [], .s (.int .i64 minute))], ((12, .box 78 zX) :: (11, .box 37 (xQ b)) :: (roX b ((5, .pf AsksAt (· = 5)) :: hp5))), 13, []⟩) ?_ ?_)
  ·refine WP_drawH [] (by kernel_rfl) (by kernel_rfl) ?_
   refine H_rn tt_ok [0, 1] ?_
   refine H_tw 2 15 (fun hfz cx' hx1 hx2 => ?z1) (fun hfz cx' hx1 hx2 => ?z2)
   case' z1 => refine CAL 46 [.s (.int .i64 shore)] (.s (.bool (isShoreX shore))) [] (fun hG nV w h => isShoreX_calls  shore w  ) ?_
   case' z2 => refine WPA tt_ok ?_
   case' z1 => refine WPE (hfz.fs [11, 0, 1, 2, 3, 4, 5, 6, 7, 8, 9, 10]) ?_
   case' z2 => refine ⟨rfl, (hfz.fs [11, 0, 1, 2, 3, 4, 5, 6, 7, 8, 9, 10]), ?_⟩
   case' z1 => refine H_rn tt_ok [3, 4] ?_
   case' z2 => refine H_stp 2 fun hfz cx' hx1 hx2 => ?_
   case' z1 => refine H_tw 5 15 (fun hfz cx' hx1 hx2 => ?z3) (fun hfz cx' hx1 hx2 => ?z4)
   case' z2 => refine CAL 46 [.s (.int .i64 shore)] (.s (.bool (isShoreX shore))) [] (fun hG nV w h => isShoreX_calls  shore w  ) ?_
   case' z3 => refine CAL 47 [.s (.int .i64 load)] (.s (.bool (isLoadX load))) [((isShoreX shore), true)] (fun hG nV w h => isLoadX_calls  load w  ) ?_
   case' z3 | z2 => refine WPE (hfz.fs [11, 0, 1, 2, 3, 4, 5, 6, 7, 8, 9, 10]) ?_
   case' z4 => refine WPA tt_ok ?_; refine ⟨rfl, (hfz.fs [11, 0, 1, 2, 3, 4, 5, 6, 7, 8, 9, 10]), ?_⟩
   case' z2 => refine H_rn tt_ok [3, 4] ?_
   case' z4 | z2 => refine H_stp 5 fun hfz cx' hx1 hx2 => ?_
   case' z3 => refine H_rn tt_ok [6, 7, 8] ?_
   case' z4 | z2 => refine CAL 47 [.s (.int .i64 load)] (.s (.bool (isLoadX load))) [((isShoreX shore), true)] (fun hG nV w h => isLoadX_calls  load w  ) ?_
   case' z3 => refine H_tw 9 15 (fun hfz cx' hx1 hx2 => ?z5) (fun hfz cx' hx1 hx2 => ?z6)
   case' z4 | z2 => refine WPE (hfz.fs [11, 0, 1, 2, 3, 4, 5, 6, 7, 8, 9, 10]) ?_
   case' z5 => refine CAL 48 [.s (.int .i64 minute)] (.s (.bool (isMinuteX minute))) [((isShoreX shore) && (isLoadX load), true)] (fun hG nV w h => isMinuteX_calls  minute w  ) ?_
   case' z6 => refine WPA tt_ok ?_
   case' z4 | z2 => refine H_rn tt_ok [6, 7, 8] ?_
   case' z5 => refine WPE (hfz.fs [11, 0, 1, 2, 3, 4, 5, 6, 7, 8, 9, 10]) ?_
   case' z6 => refine ⟨rfl, (hfz.fs [11, 0, 1, 2, 3, 4, 5, 6, 7, 8, 9, 10]), ?_⟩
   case' z6 | z4 | z2 => refine H_stp 9 fun hfz cx' hx1 hx2 => ?_
   case' z5 => refine H_rn tt_ok [10] ?_
   case' z6 | z4 | z2 => refine CAL 48 [.s (.int .i64 minute)] (.s (.bool (isMinuteX minute))) [((isShoreX shore) && (isLoadX load), true)] (fun hG nV w h => isMinuteX_calls  minute w  ) ?_
   case' z5 => refine H_tw 11 15 (fun hfz cx' hx1 hx2 => ?z7) (fun hfz cx' hx1 hx2 => ?z8)
   case' z6 | z4 | z2 => refine WPE (hfz.fs [11, 0, 1, 2, 3, 4, 5, 6, 7, 8, 9, 10]) ?_
   case' z7 => refine CAL 45 [.g (xQ b), .s (.bool (((isShoreX shore) && (isLoadX load)) && (isMinuteX minute)))] (.t [(true, zX), (false, [.int .i64 (errX b (((isShoreX shore) && (isLoadX load)) && (isMinuteX minute)))])]) [] (fun _ nV w h => askedX_no (nV 0) (nV 1) (nV 2) (nV 3) (nV 4) b (((isShoreX shore) && (isLoadX load)) && (isMinuteX minute)) w (h.rd 0 24) (h.rd 1 112) (h.rd 2 103) (h.rd 3 105) (h.rd 4 60) (h.ft 5 5) (h.ft 6 4) (h.ft 7 3) (h.ft 10 2) hq) ?_
   case' z8 => refine WPA tt_ok ?_
   case' z6 | z4 | z2 => refine H_rn tt_ok [10] ?_
   case' z7 => refine WPE (hfz.fs [11, 0, 1, 2, 3, 4, 5, 6, 7, 8, 9, 10]) ?_
   case' z8 => refine ⟨rfl, (hfz.fs [11, 0, 1, 2, 3, 4, 5, 6, 7, 8, 9, 10]), ?_⟩
   case' z8 | z6 | z4 | z2 => refine H_stp 11 fun hfz cx' hx1 hx2 => ?_
   case' z7 => refine H_rn tt_ok [12, 13, 14] ?_
   case' z8 | z6 | z4 | z2 => refine CAL 45 [.g (xQ b), .s (.bool (((isShoreX shore) && (isLoadX load)) && (isMinuteX minute)))] (.t [(true, zX), (false, [.int .i64 (errX b (((isShoreX shore) && (isLoadX load)) && (isMinuteX minute)))])]) [] (fun _ nV w h => askedX_no (nV 0) (nV 1) (nV 2) (nV 3) (nV 4) b (((isShoreX shore) && (isLoadX load)) && (isMinuteX minute)) w (h.rd 0 24) (h.rd 1 112) (h.rd 2 103) (h.rd 3 105) (h.rd 4 60) (h.ft 5 5) (h.ft 6 4) (h.ft 7 3) (h.ft 10 2) hq) ?_
   case' z7 => refine H_stp 15 fun hfz cx' hx1 hx2 => ?_
   case' z8 | z6 | z4 | z2 => refine WPE (hfz.fs [11, 0, 1, 2, 3, 4, 5, 6, 7, 8, 9, 10]) ?_
   case' z7 => refine WPA tt_ok ?_
   case' z8 | z6 | z4 | z2 => refine H_rn tt_ok [12, 13, 14] ?_
   case' z7 => refine ⟨rfl, (hfz.fs [11, 0, 1, 2, 3, 4, 5, 6, 7, 8, 9, 10]), ?_⟩
   all_goals (refine H_stp 16 fun hfz cx' hx1 hx2 => ?_; refine WPA tt_ok ?_; refine ⟨rfl, (hfz.fs [11, 0, 1, 2, 3, 4, 5, 6, 7, 8, 9, 10]), ?_⟩; refine H_rn tt_ok [17] ?_; refine H_done (by kernel_rfl) ?_; exact ⟨(), Le_sel (ts := [11, 10, 4, 1, 2, 3]) (ids := [12, 11, 0, 1, 2, 3, 4, 5, 6, 7, 8, 9, 10]) (nx := 13) (by kernel_rfl)⟩)
  intro _
  refine WP_seq (WSA tt_ok ?_)
  refine WP_cond ((errX b (((isShoreX shore) && (isLoadX load)) && (isMinuteX minute))) != 0) (by kernel_rfl) (fun hc1 => ?_) (fun h => by rw [(errX_ne hq)] at h; cases h)
  refine WSA tt_ok ?_
  refine WP_ret ?_
  exact ⟨.t [(false, [.int .i64 0]), (false, [.int .i64 (errX b (((isShoreX shore) && (isLoadX load)) && (isMinuteX minute)))])], by kernel_rfl, fun nV w' h => ⟨by rw [show sureA b shore load minute = (0, errX b (((isShoreX shore) && (isLoadX load)) && (isMinuteX minute))) from by unfold sureA; simp only [hq, hc1, cond_true, cond_false]]; rfl, h.bel⟩⟩
 have hqe : errX b (((isShoreX shore) && (isLoadX load)) && (isMinuteX minute)) = 0 := by simpa using hq
 obtain ⟨hc01, hc02, hc03⟩ := errX_ok.1 hqe
 have hvX := checkX_valid.1 hc01
 have he := hvX.each.1
 have hsh := hvX.shore
 have htu := hvX.turn
 have hnt := hvX.nt
 have hcr := hvX.fw.cr
 refine CW tt_ok [g0, g1, g2, g3, g4] 5 [.g (xQ b), .s (.int .i64 shore), .s (.int .i64 load), .s (.int .i64 minute)] (roX b ((5, .pf AsksAt (· = 5)) :: hp5)) 11 Tryd.func16 rfl rfl rfl (by simp [r0.one, r1.one, r2.one, r3.one, r4.one]) ⟨ro_in r0, ro_in r1, ro_in r2, ro_in r3, ro_in r4, pf_in ha, pf_in hun, pf_in hnw0, pf_in hla, pf_in hsd, pf_in hxn, trivial⟩ ?_
 have hl0 := Reads.len r0
 have hl1 := Reads.len r1
 have hl2 := Reads.len r2
 have hl3 := Reads.len r3
 have hl4 := Reads.len r4
 refine WSA tt_ok ?_
 refine WP_seq (WP_toX (σ := Nat) (fun gM1 => ⟨49, [(11, [], .s (.int .i64 (errX b (((isShoreX shore) && (isLoadX load)) && (isMinuteX minute))))), (10, [], .s (.p 13 0)), (4, [], .s (.p 11 0)), (1, [], .s (.int .i64 shore)), (2, [], .s (.int .i64 load)), (3, [], .s (.int .i64 minute))], ((13, .box 78 (xR b gM1)) :: (12, mapE gM1 (fkL b.fw) fkKey fkVal) :: (11, .box 37 (xQ b)) :: (roX b ((5, .pf AsksAt (· = 5)) :: hp5))), 14, []⟩) ?_ ?_)
 ·refine WP_drawH [] (by kernel_rfl) (by kernel_rfl) ?_
  refine H_rn tt_ok [0, 1] ?_
  refine H_tw 2 15 (fun hfz cx' hx1 hx2 => ?z9) (fun hfz cx' hx1 hx2 => ?z10)
  case' z9 => refine CAL 46 [.s (.int .i64 shore)] (.s (.bool (isShoreX shore))) [] (fun hG nV w h => isShoreX_calls  shore w  ) ?_
  case' z10 => refine WPA tt_ok ?_
  case' z9 => refine WPE (hfz.fs [11, 0, 1, 2, 3, 4, 5, 6, 7, 8, 9, 10]) ?_
  case' z10 => refine ⟨rfl, (hfz.fs [11, 0, 1, 2, 3, 4, 5, 6, 7, 8, 9, 10]), ?_⟩
  case' z9 => refine H_rn tt_ok [3, 4] ?_
  case' z10 => refine H_stp 2 fun hfz cx' hx1 hx2 => ?_
  case' z9 => refine H_tw 5 15 (fun hfz cx' hx1 hx2 => ?z11) (fun hfz cx' hx1 hx2 => ?z12)
  case' z10 => refine CAL 46 [.s (.int .i64 shore)] (.s (.bool (isShoreX shore))) [] (fun hG nV w h => isShoreX_calls  shore w  ) ?_
  case' z11 => refine CAL 47 [.s (.int .i64 load)] (.s (.bool (isLoadX load))) [((isShoreX shore), true)] (fun hG nV w h => isLoadX_calls  load w  ) ?_
  case' z11 | z10 => refine WPE (hfz.fs [11, 0, 1, 2, 3, 4, 5, 6, 7, 8, 9, 10]) ?_
  case' z12 => refine WPA tt_ok ?_; refine ⟨rfl, (hfz.fs [11, 0, 1, 2, 3, 4, 5, 6, 7, 8, 9, 10]), ?_⟩
  case' z10 => refine H_rn tt_ok [3, 4] ?_
  case' z12 | z10 => refine H_stp 5 fun hfz cx' hx1 hx2 => ?_
  case' z11 => refine H_rn tt_ok [6, 7, 8] ?_
  case' z12 | z10 => refine CAL 47 [.s (.int .i64 load)] (.s (.bool (isLoadX load))) [((isShoreX shore), true)] (fun hG nV w h => isLoadX_calls  load w  ) ?_
  case' z11 => refine H_tw 9 15 (fun hfz cx' hx1 hx2 => ?z13) (fun hfz cx' hx1 hx2 => ?z14)
  case' z12 | z10 => refine WPE (hfz.fs [11, 0, 1, 2, 3, 4, 5, 6, 7, 8, 9, 10]) ?_
  case' z13 => refine CAL 48 [.s (.int .i64 minute)] (.s (.bool (isMinuteX minute))) [((isShoreX shore) && (isLoadX load), true)] (fun hG nV w h => isMinuteX_calls  minute w  ) ?_
  case' z14 => refine WPA tt_ok ?_
  case' z12 | z10 => refine H_rn tt_ok [6, 7, 8] ?_
  case' z13 => refine WPE (hfz.fs [11, 0, 1, 2, 3, 4, 5, 6, 7, 8, 9, 10]) ?_
  case' z14 => refine ⟨rfl, (hfz.fs [11, 0, 1, 2, 3, 4, 5, 6, 7, 8, 9, 10]), ?_⟩
  case' z14 | z12 | z10 => refine H_stp 9 fun hfz cx' hx1 hx2 => ?_
  case' z13 => refine H_rn tt_ok [10] ?_
  case' z14 | z12 | z10 => refine CAL 48 [.s (.int .i64 minute)] (.s (.bool (isMinuteX minute))) [((isShoreX shore) && (isLoadX load), true)] (fun hG nV w h => isMinuteX_calls  minute w  ) ?_
  case' z13 => refine H_tw 11 15 (fun hfz cx' hx1 hx2 => ?z15) (fun hfz cx' hx1 hx2 => ?z16)
  case' z14 | z12 | z10 => refine WPE (hfz.fs [11, 0, 1, 2, 3, 4, 5, 6, 7, 8, 9, 10]) ?_
  case' z15 => refine CALLMAP 45 [.g (xQ b), .s (.bool (((isShoreX shore) && (isLoadX load)) && (isMinuteX minute)))] (fkL b.fw) fkKey fkVal (fun gMq0 => .t [(true, (xR b gMq0)), (false, [.int .i64 (errX b (((isShoreX shore) && (isLoadX load)) && (isMinuteX minute)))])]) (by kernel_rfl) (goes_of (by kernel_rfl)) (fun _ => (by kernel_rfl)) (fun _ => (by kernel_rfl)) (fun _ n nq1 h => (AV.c_congr (okB_sound (by kernel_rfl)) h).symm) (fun nV w h => askedX_yes (nV 0) (nV 1) (nV 2) (nV 3) (nV 4) b (((isShoreX shore) && (isLoadX load)) && (isMinuteX minute)) w (h.rd 0 24) (h.rd 1 112) (h.rd 2 103) (h.rd 3 105) (h.rd 4 60) (h.ft 5 5) (h.ft 6 4) (h.ft 7 3) (h.ft 10 2) (by simpa using hq)) (fun gMq0 => ?_)
  case' z16 => refine WPA tt_ok ?_
  case' z14 | z12 | z10 => refine H_rn tt_ok [10] ?_
  case' z15 => refine WPE (hfz.fs [11, 0, 1, 2, 3, 4, 5, 6, 7, 8, 9, 10]) ?_
  case' z16 => refine ⟨rfl, (hfz.fs [11, 0, 1, 2, 3, 4, 5, 6, 7, 8, 9, 10]), ?_⟩
  case' z16 | z14 | z12 | z10 => refine H_stp 11 fun hfz cx' hx1 hx2 => ?_
  case' z15 => refine H_rn tt_ok [12, 13, 14] ?_
  case' z16 | z14 | z12 | z10 => refine CALLMAP 45 [.g (xQ b), .s (.bool (((isShoreX shore) && (isLoadX load)) && (isMinuteX minute)))] (fkL b.fw) fkKey fkVal (fun gMq0 => .t [(true, (xR b gMq0)), (false, [.int .i64 (errX b (((isShoreX shore) && (isLoadX load)) && (isMinuteX minute)))])]) (by kernel_rfl) (goes_of (by kernel_rfl)) (fun _ => (by kernel_rfl)) (fun _ => (by kernel_rfl)) (fun _ n nq1 h => (AV.c_congr (okB_sound (by kernel_rfl)) h).symm) (fun nV w h => askedX_yes (nV 0) (nV 1) (nV 2) (nV 3) (nV 4) b (((isShoreX shore) && (isLoadX load)) && (isMinuteX minute)) w (h.rd 0 24) (h.rd 1 112) (h.rd 2 103) (h.rd 3 105) (h.rd 4 60) (h.ft 5 5) (h.ft 6 4) (h.ft 7 3) (h.ft 10 2) (by simpa using hq)) (fun gMq0 => ?_)
  case' z15 => refine H_stp 15 fun hfz cx' hx1 hx2 => ?_
  case' z16 | z14 | z12 | z10 => refine WPE (hfz.fs [11, 0, 1, 2, 3, 4, 5, 6, 7, 8, 9, 10]) ?_
  case' z15 => refine WPA tt_ok ?_
  case' z16 | z14 | z12 | z10 => refine H_rn tt_ok [12, 13, 14] ?_
  case' z15 => refine ⟨rfl, (hfz.fs [11, 0, 1, 2, 3, 4, 5, 6, 7, 8, 9, 10]), ?_⟩
  all_goals (refine H_stp 16 fun hfz cx' hx1 hx2 => ?_; refine WPA tt_ok ?_; refine ⟨rfl, (hfz.fs [11, 0, 1, 2, 3, 4, 5, 6, 7, 8, 9, 10]), ?_⟩; refine H_rn tt_ok [17] ?_; refine H_done (by kernel_rfl) ?_)
  case' z16 | z14 | z12 | z10 => exact ⟨gMq0, Le_ren [(13, 12), (12, 13)] (by repeat (first | exact trivial | refine ⟨by kernel_rfl, ?_⟩)) ⟨by kernel_rfl, rfl, by kernel_rfl, by kernel_rfl, rfl, by kernel_rfl, by kernel_rfl, rfl, by kernel_rfl, by kernel_rfl, rfl, by kernel_rfl, by kernel_rfl, rfl, by kernel_rfl, by kernel_rfl, rfl, by kernel_rfl, trivial⟩ (by kernel_rfl) (by kernel_rfl) (rnm_id (m := 5) (by kernel_rfl)) (by show 5 ≤ 14; decide) (by kernel_rfl) (by kernel_rfl)⟩
  exact ⟨gMq0, Le_sel (ts := [11, 10, 4, 1, 2, 3]) (ids := [13, 12, 11, 0, 1, 2, 3, 4, 5, 6, 7, 8, 9, 10]) (nx := 14) (by kernel_rfl)⟩
 intro gM1
 refine WP_seq (WSA tt_ok ?_)
 refine WP_cond ((errX b (((isShoreX shore) && (isLoadX load)) && (isMinuteX minute))) != 0) (by kernel_rfl) (fun h => by rw [(errX_eq hq)] at h; cases h) (fun hc2 => ?_)
 refine WP_skip ?_
 refine WSR tt_ok 3 ?_
 refine CAL 49 [.g [.ref 2, .int .i64 b.fw.hear.lo, .int .i64 b.fw.hear.hi, .int .i64 b.fw.br, .int .i64 b.fw.cr, .int .i64 b.fw.sl, .ref 3], .s (.int .i64 minute)] (.t [(false, [.int .i64 (clearA b.fw minute).1]), (false, [.int .i64 (clearA b.fw minute).2])]) [] (fun hG nV w h => clearA_calls (nV 2) (nV 3) b.fw minute w (h.rd 2 103) (h.rd 3 105) (h.ft 5 5) ) ?_
 refine WPA tt_ok ?_
 refine WSR tt_ok 5 ?_
 refine CAL 50 [.g (xR b gM1), .g [.int .i64 shore, .int .i64 minute], .s (.int .i64 load)] (.g [.int .i64 (shoresX b (⟨shore, minute⟩ : (Int × Int)) load).1, .int .i64 (shoresX b (⟨shore, minute⟩ : (Int × Int)) load).2]) [] (fun hG nV w h => shoresX_calls (nV 0) (nV 1) (nV 2) (nV 3) (nV 4) gM1 b (⟨shore, minute⟩ : (Int × Int)) load w (h.rd 0 24) (h.rd 1 112) (h.rd 2 103) (h.rd 3 105) (h.rd 4 60) (h.ft 6 4) (h.ft 7 3) (h.ft 8 1) (h.ft 9 0) (by first | assumption | omega)) ?_
 refine WPA tt_ok ?_
 refine WSR tt_ok 1 ?_
 refine BSL tt_ok 0 2 2 2 [] (by kernel_rfl) (fun _ => ⟨by omega, by omega⟩) (by kernel_rfl) ?_
 refine CAL 51 [.s (.int .i64 (clearA b.fw minute).1), .s (.sb 14 0 1 0 2 2)] (.s (.int .i64 (leastX (clearA b.fw minute).1 ([(shoresX b (⟨shore, minute⟩ : (Int × Int)) load).1, (shoresX b (⟨shore, minute⟩ : (Int × Int)) load).2] : List Int)))) [] (fun hG nV w h => leastX_calls ((AC.sb 14 0 1 0 2 2).c nV) (clearA b.fw minute).1 ([(shoresX b (⟨shore, minute⟩ : (Int × Int)) load).1, (shoresX b (⟨shore, minute⟩ : (Int × Int)) load).2] : List Int) w (sb_reads h (id := 14) (ty := 83) (cs := [.int .i64 (shoresX b (⟨shore, minute⟩ : (Int × Int)) load).1, .int .i64 (shoresX b (⟨shore, minute⟩ : (Int × Int)) load).2]) (by kernel_rfl) (off := 0) (i := 0) (j := 2) (k := 2) (m := 2) ⟨by decide, by decide, by decide⟩ (Nat.le_of_ble_eq_true rfl) (by decide) (AC.int .i64) (Value.int .i64) (fun _ => rfl) ([(shoresX b (⟨shore, minute⟩ : (Int × Int)) load).1, (shoresX b (⟨shore, minute⟩ : (Int × Int)) load).2] : List Int) 0 rfl (fun q hq => by rcases (show q = 0 ∨ q = 1 by omega) with rfl | rfl <;> rfl)) ) ?_
 refine WPA tt_ok ?_
 refine WP_ret ?_
 exact ⟨.t [(false, [.int .i64 (leastX (clearA b.fw minute).1 ([(shoresX b (⟨shore, minute⟩ : (Int × Int)) load).1, (shoresX b (⟨shore, minute⟩ : (Int × Int)) load).2] : List Int))]), (false, [.int .i64 0])], by kernel_rfl, fun nV w' h => ⟨by rw [show sureA b shore load minute = ((leastX (clearA b.fw minute).1 ([(shoresX b (⟨shore, minute⟩ : (Int × Int)) load).1, (shoresX b (⟨shore, minute⟩ : (Int × Int)) load).2] : List Int)), 0) from by unfold sureA; simp only [hq, hc2, cond_true, cond_false]]; rfl, h.bel⟩⟩
def foundU (b : XBook) (shore : Int) (load : Int) (minute : Int) : Int × Int :=
 (bif errX b (((isShoreX shore) && (isLoadX load)) && (isMinuteX minute)) == 0 then (bif (errX b (((isShoreX shore) && (isLoadX load)) && (isMinuteX minute))) != 0 then (bif !(firstU b (⟨shore, minute⟩ : (Int × Int)) load).2 then (0, 4) else ((firstU b (⟨shore, minute⟩ : (Int × Int)) load).1, 0)) else (bif !(firstU b (⟨shore, minute⟩ : (Int × Int)) load).2 then (0, 4) else ((firstU b (⟨shore, minute⟩ : (Int × Int)) load).1, 0))) else (bif (errX b (((isShoreX shore) && (isLoadX load)) && (isMinuteX minute))) != 0 then (0, errX b (((isShoreX shore) && (isLoadX load)) && (isMinuteX minute))) else (0, errX b (((isShoreX shore) && (isLoadX load)) && (isMinuteX minute)))))
theorem foundU_calls (g0 g1 g2 g3 g4 : Value) (b : XBook) (shore : Int) (load : Int) (minute : Int) (w : World) (r0 : Reads w g0 2 b.lan.tides encSpan zSpan) (r1 : Reads w g1 3 b.lan.sounds encSound zSound) (r2 : Reads w g2 5 b.fw.ships encShip zShip) (r3 : Reads w g3 4 b.fw.sights encSight zSight) (r4 : Reads w g4 2 b.trips encTrip zTrip) (ha : AsksAt w) (hun : UnknownAt w) (hnw0 : NowhereAt w) (hla : LAsksAt w) (hsd : SidesAt w) (hxn : XNowhereAt w)  : Calls Tryd.prog 55 #[.agg ((xV g0 b g1 g2 g3 g4).toArray), iv shore, iv load, iv minute, .agg #[.func (.func 85) #[] #[]]] w fun e w' => e = .returned (.tuple #[iv (foundU b shore load minute).1, iv (foundU b shore load minute).2]) ∧ Below w.heap.size w w' := by
 cases hq : (errX b (((isShoreX shore) && (isLoadX load)) && (isMinuteX minute)) == 0)
 ·refine CW tt_ok [g0, g1, g2, g3, g4] 5 [.g (xQ b), .s (.int .i64 shore), .s (.int .i64 load), .s (.int .i64 minute), .g [.v (.func (.func 85) #[] #[])]] (roX b ((5, .pf AsksAt (· = 5)) :: hp5)) 11 Tryd.func55 rfl rfl rfl (by simp [r0.one, r1.one, r2.one, r3.one, r4.one]) ⟨ro_in r0, ro_in r1, ro_in r2, ro_in r3, ro_in r4, pf_in ha, pf_in hun, pf_in hnw0, pf_in hla, pf_in hsd, pf_in hxn, trivial⟩ ?_
  have hl0 := Reads.len r0
  have hl1 := Reads.len r1
  have hl2 := Reads.len r2
  have hl3 := Reads.len r3
  have hl4 := Reads.len r4
  refine WSA tt_ok ?_
  refine WP_seq (WP_toX (σ := Unit) (fun _ => ⟨47, [(13, [], .s (.int .i64 (errX b (((isShoreX shore) && (isLoadX load)) && (isMinuteX minute))))), (12, [], .s (.p 13 0)), (9, [], .s (.p 12 0)), (1, [], .s (.int .i64 shore)), (2, [], .s (.int .i64 load)), (3, [], .s (.int .i64 minute))], ((13, .box 78 zX) :: (12, .box 95 [.v (.func (.func 85) #[] #[])]) :: (11, .box 37 (xQ b)) :: (roX b ((5, .pf AsksAt (· = 5)) :: hp5))), 14, []⟩) ?_ ?_)
  ·refine WP_drawH [] (by kernel_rfl) (by kernel_rfl) ?_
   refine H_rn tt_ok [0, 1] ?_
   refine H_tw 2 15 (fun hfz cx' hx1 hx2 => ?z1) (fun hfz cx' hx1 hx2 => ?z2)
   case' z1 => refine CAL 46 [.s (.int .i64 shore)] (.s (.bool (isShoreX shore))) [] (fun hG nV w h => isShoreX_calls  shore w  ) ?_
   case' z2 => refine WPA tt_ok ?_
   case' z1 => refine WPE (hfz.fs [12, 11, 0, 1, 2, 3, 4, 5, 6, 7, 8, 9, 10]) ?_
   case' z2 => refine ⟨rfl, (hfz.fs [12, 11, 0, 1, 2, 3, 4, 5, 6, 7, 8, 9, 10]), ?_⟩
   case' z1 => refine H_rn tt_ok [3, 4] ?_
   case' z2 => refine H_stp 2 fun hfz cx' hx1 hx2 => ?_
   case' z1 => refine H_tw 5 15 (fun hfz cx' hx1 hx2 => ?z3) (fun hfz cx' hx1 hx2 => ?z4)
   case' z2 => refine CAL 46 [.s (.int .i64 shore)] (.s (.bool (isShoreX shore))) [] (fun hG nV w h => isShoreX_calls  shore w  ) ?_
   case' z3 => refine CAL 47 [.s (.int .i64 load)] (.s (.bool (isLoadX load))) [((isShoreX shore), true)] (fun hG nV w h => isLoadX_calls  load w  ) ?_
   case' z3 | z2 => refine WPE (hfz.fs [12, 11, 0, 1, 2, 3, 4, 5, 6, 7, 8, 9, 10]) ?_
   case' z4 => refine WPA tt_ok ?_; refine ⟨rfl, (hfz.fs [12, 11, 0, 1, 2, 3, 4, 5, 6, 7, 8, 9, 10]), ?_⟩
   case' z2 => refine H_rn tt_ok [3, 4] ?_
   case' z4 | z2 => refine H_stp 5 fun hfz cx' hx1 hx2 => ?_
   case' z3 => refine H_rn tt_ok [6, 7, 8] ?_
   case' z4 | z2 => refine CAL 47 [.s (.int .i64 load)] (.s (.bool (isLoadX load))) [((isShoreX shore), true)] (fun hG nV w h => isLoadX_calls  load w  ) ?_
   case' z3 => refine H_tw 9 15 (fun hfz cx' hx1 hx2 => ?z5) (fun hfz cx' hx1 hx2 => ?z6)
   case' z4 | z2 => refine WPE (hfz.fs [12, 11, 0, 1, 2, 3, 4, 5, 6, 7, 8, 9, 10]) ?_
   case' z5 => refine CAL 48 [.s (.int .i64 minute)] (.s (.bool (isMinuteX minute))) [((isShoreX shore) && (isLoadX load), true)] (fun hG nV w h => isMinuteX_calls  minute w  ) ?_
   case' z6 => refine WPA tt_ok ?_
   case' z4 | z2 => refine H_rn tt_ok [6, 7, 8] ?_
   case' z5 => refine WPE (hfz.fs [12, 11, 0, 1, 2, 3, 4, 5, 6, 7, 8, 9, 10]) ?_
   case' z6 => refine ⟨rfl, (hfz.fs [12, 11, 0, 1, 2, 3, 4, 5, 6, 7, 8, 9, 10]), ?_⟩
   case' z6 | z4 | z2 => refine H_stp 9 fun hfz cx' hx1 hx2 => ?_
   case' z5 => refine H_rn tt_ok [10] ?_
   case' z6 | z4 | z2 => refine CAL 48 [.s (.int .i64 minute)] (.s (.bool (isMinuteX minute))) [((isShoreX shore) && (isLoadX load), true)] (fun hG nV w h => isMinuteX_calls  minute w  ) ?_
   case' z5 => refine H_tw 11 15 (fun hfz cx' hx1 hx2 => ?z7) (fun hfz cx' hx1 hx2 => ?z8)
   case' z6 | z4 | z2 => refine WPE (hfz.fs [12, 11, 0, 1, 2, 3, 4, 5, 6, 7, 8, 9, 10]) ?_
   case' z7 => refine CAL 45 [.g (xQ b), .s (.bool (((isShoreX shore) && (isLoadX load)) && (isMinuteX minute)))] (.t [(true, zX), (false, [.int .i64 (errX b (((isShoreX shore) && (isLoadX load)) && (isMinuteX minute)))])]) [] (fun _ nV w h => askedX_no (nV 0) (nV 1) (nV 2) (nV 3) (nV 4) b (((isShoreX shore) && (isLoadX load)) && (isMinuteX minute)) w (h.rd 0 24) (h.rd 1 112) (h.rd 2 103) (h.rd 3 105) (h.rd 4 60) (h.ft 5 5) (h.ft 6 4) (h.ft 7 3) (h.ft 10 2) hq) ?_
   case' z8 => refine WPA tt_ok ?_
   case' z6 | z4 | z2 => refine H_rn tt_ok [10] ?_
   case' z7 => refine WPE (hfz.fs [12, 11, 0, 1, 2, 3, 4, 5, 6, 7, 8, 9, 10]) ?_
   case' z8 => refine ⟨rfl, (hfz.fs [12, 11, 0, 1, 2, 3, 4, 5, 6, 7, 8, 9, 10]), ?_⟩
   case' z8 | z6 | z4 | z2 => refine H_stp 11 fun hfz cx' hx1 hx2 => ?_
   case' z7 => refine H_rn tt_ok [12, 13, 14] ?_
   case' z8 | z6 | z4 | z2 => refine CAL 45 [.g (xQ b), .s (.bool (((isShoreX shore) && (isLoadX load)) && (isMinuteX minute)))] (.t [(true, zX), (false, [.int .i64 (errX b (((isShoreX shore) && (isLoadX load)) && (isMinuteX minute)))])]) [] (fun _ nV w h => askedX_no (nV 0) (nV 1) (nV 2) (nV 3) (nV 4) b (((isShoreX shore) && (isLoadX load)) && (isMinuteX minute)) w (h.rd 0 24) (h.rd 1 112) (h.rd 2 103) (h.rd 3 105) (h.rd 4 60) (h.ft 5 5) (h.ft 6 4) (h.ft 7 3) (h.ft 10 2) hq) ?_
   case' z7 => refine H_stp 15 fun hfz cx' hx1 hx2 => ?_
   case' z8 | z6 | z4 | z2 => refine WPE (hfz.fs [12, 11, 0, 1, 2, 3, 4, 5, 6, 7, 8, 9, 10]) ?_
   case' z7 => refine WPA tt_ok ?_
   case' z8 | z6 | z4 | z2 => refine H_rn tt_ok [12, 13, 14] ?_
   case' z7 => refine ⟨rfl, (hfz.fs [12, 11, 0, 1, 2, 3, 4, 5, 6, 7, 8, 9, 10]), ?_⟩
   all_goals (refine H_stp 16 fun hfz cx' hx1 hx2 => ?_; refine WPA tt_ok ?_; refine ⟨rfl, (hfz.fs [12, 11, 0, 1, 2, 3, 4, 5, 6, 7, 8, 9, 10]), ?_⟩; refine H_rn tt_ok [17] ?_; refine H_done (by kernel_rfl) ?_; exact ⟨(), Le_sel (ts := [13, 12, 9, 1, 2, 3]) (ids := [13, 12, 11, 0, 1, 2, 3, 4, 5, 6, 7, 8, 9, 10]) (nx := 14) (by kernel_rfl)⟩)
  intro _
  refine WP_seq (WSA tt_ok ?_)
  refine WP_cond ((errX b (((isShoreX shore) && (isLoadX load)) && (isMinuteX minute))) != 0) (by kernel_rfl) (fun hc1 => ?_) (fun h => by rw [(errX_ne hq)] at h; cases h)
  refine WSA tt_ok ?_
  refine WP_ret ?_
  exact ⟨.t [(false, [.int .i64 0]), (false, [.int .i64 (errX b (((isShoreX shore) && (isLoadX load)) && (isMinuteX minute)))])], by kernel_rfl, fun nV w' h => ⟨by rw [show foundU b shore load minute = (0, errX b (((isShoreX shore) && (isLoadX load)) && (isMinuteX minute))) from by unfold foundU; simp only [hq, hc1, cond_true, cond_false]]; rfl, h.bel⟩⟩
 have hqe : errX b (((isShoreX shore) && (isLoadX load)) && (isMinuteX minute)) = 0 := by simpa using hq
 obtain ⟨hc01, hc02, hc03⟩ := errX_ok.1 hqe
 have hvX := checkX_valid.1 hc01
 have he := hvX.each.1
 have hsh := hvX.shore
 have htu := hvX.turn
 have hnt := hvX.nt
 have hcr := hvX.fw.cr
 refine CW tt_ok [g0, g1, g2, g3, g4] 5 [.g (xQ b), .s (.int .i64 shore), .s (.int .i64 load), .s (.int .i64 minute), .g [.v (.func (.func 85) #[] #[])]] (roX b ((5, .pf AsksAt (· = 5)) :: hp5)) 11 Tryd.func55 rfl rfl rfl (by simp [r0.one, r1.one, r2.one, r3.one, r4.one]) ⟨ro_in r0, ro_in r1, ro_in r2, ro_in r3, ro_in r4, pf_in ha, pf_in hun, pf_in hnw0, pf_in hla, pf_in hsd, pf_in hxn, trivial⟩ ?_
 have hl0 := Reads.len r0
 have hl1 := Reads.len r1
 have hl2 := Reads.len r2
 have hl3 := Reads.len r3
 have hl4 := Reads.len r4
 refine WSA tt_ok ?_
 refine WP_seq (WP_toX (σ := Nat) (fun gM1 => ⟨47, [(13, [], .s (.int .i64 (errX b (((isShoreX shore) && (isLoadX load)) && (isMinuteX minute))))), (12, [], .s (.p 14 0)), (9, [], .s (.p 12 0)), (1, [], .s (.int .i64 shore)), (2, [], .s (.int .i64 load)), (3, [], .s (.int .i64 minute))], ((14, .box 78 (xR b gM1)) :: (13, mapE gM1 (fkL b.fw) fkKey fkVal) :: (12, .box 95 [.v (.func (.func 85) #[] #[])]) :: (11, .box 37 (xQ b)) :: (roX b ((5, .pf AsksAt (· = 5)) :: hp5))), 15, []⟩) ?_ ?_)
 ·refine WP_drawH [] (by kernel_rfl) (by kernel_rfl) ?_
  refine H_rn tt_ok [0, 1] ?_
  refine H_tw 2 15 (fun hfz cx' hx1 hx2 => ?z9) (fun hfz cx' hx1 hx2 => ?z10)
  case' z9 => refine CAL 46 [.s (.int .i64 shore)] (.s (.bool (isShoreX shore))) [] (fun hG nV w h => isShoreX_calls  shore w  ) ?_
  case' z10 => refine WPA tt_ok ?_
  case' z9 => refine WPE (hfz.fs [12, 11, 0, 1, 2, 3, 4, 5, 6, 7, 8, 9, 10]) ?_
  case' z10 => refine ⟨rfl, (hfz.fs [12, 11, 0, 1, 2, 3, 4, 5, 6, 7, 8, 9, 10]), ?_⟩
  case' z9 => refine H_rn tt_ok [3, 4] ?_
  case' z10 => refine H_stp 2 fun hfz cx' hx1 hx2 => ?_
  case' z9 => refine H_tw 5 15 (fun hfz cx' hx1 hx2 => ?z11) (fun hfz cx' hx1 hx2 => ?z12)
  case' z10 => refine CAL 46 [.s (.int .i64 shore)] (.s (.bool (isShoreX shore))) [] (fun hG nV w h => isShoreX_calls  shore w  ) ?_
  case' z11 => refine CAL 47 [.s (.int .i64 load)] (.s (.bool (isLoadX load))) [((isShoreX shore), true)] (fun hG nV w h => isLoadX_calls  load w  ) ?_
  case' z11 | z10 => refine WPE (hfz.fs [12, 11, 0, 1, 2, 3, 4, 5, 6, 7, 8, 9, 10]) ?_
  case' z12 => refine WPA tt_ok ?_; refine ⟨rfl, (hfz.fs [12, 11, 0, 1, 2, 3, 4, 5, 6, 7, 8, 9, 10]), ?_⟩
  case' z10 => refine H_rn tt_ok [3, 4] ?_
  case' z12 | z10 => refine H_stp 5 fun hfz cx' hx1 hx2 => ?_
  case' z11 => refine H_rn tt_ok [6, 7, 8] ?_
  case' z12 | z10 => refine CAL 47 [.s (.int .i64 load)] (.s (.bool (isLoadX load))) [((isShoreX shore), true)] (fun hG nV w h => isLoadX_calls  load w  ) ?_
  case' z11 => refine H_tw 9 15 (fun hfz cx' hx1 hx2 => ?z13) (fun hfz cx' hx1 hx2 => ?z14)
  case' z12 | z10 => refine WPE (hfz.fs [12, 11, 0, 1, 2, 3, 4, 5, 6, 7, 8, 9, 10]) ?_
  case' z13 => refine CAL 48 [.s (.int .i64 minute)] (.s (.bool (isMinuteX minute))) [((isShoreX shore) && (isLoadX load), true)] (fun hG nV w h => isMinuteX_calls  minute w  ) ?_
  case' z14 => refine WPA tt_ok ?_
  case' z12 | z10 => refine H_rn tt_ok [6, 7, 8] ?_
  case' z13 => refine WPE (hfz.fs [12, 11, 0, 1, 2, 3, 4, 5, 6, 7, 8, 9, 10]) ?_
  case' z14 => refine ⟨rfl, (hfz.fs [12, 11, 0, 1, 2, 3, 4, 5, 6, 7, 8, 9, 10]), ?_⟩
  case' z14 | z12 | z10 => refine H_stp 9 fun hfz cx' hx1 hx2 => ?_
  case' z13 => refine H_rn tt_ok [10] ?_
  case' z14 | z12 | z10 => refine CAL 48 [.s (.int .i64 minute)] (.s (.bool (isMinuteX minute))) [((isShoreX shore) && (isLoadX load), true)] (fun hG nV w h => isMinuteX_calls  minute w  ) ?_
  case' z13 => refine H_tw 11 15 (fun hfz cx' hx1 hx2 => ?z15) (fun hfz cx' hx1 hx2 => ?z16)
  case' z14 | z12 | z10 => refine WPE (hfz.fs [12, 11, 0, 1, 2, 3, 4, 5, 6, 7, 8, 9, 10]) ?_
  case' z15 => refine CALLMAP 45 [.g (xQ b), .s (.bool (((isShoreX shore) && (isLoadX load)) && (isMinuteX minute)))] (fkL b.fw) fkKey fkVal (fun gMq0 => .t [(true, (xR b gMq0)), (false, [.int .i64 (errX b (((isShoreX shore) && (isLoadX load)) && (isMinuteX minute)))])]) (by kernel_rfl) (goes_of (by kernel_rfl)) (fun _ => (by kernel_rfl)) (fun _ => (by kernel_rfl)) (fun _ n nq1 h => (AV.c_congr (okB_sound (by kernel_rfl)) h).symm) (fun nV w h => askedX_yes (nV 0) (nV 1) (nV 2) (nV 3) (nV 4) b (((isShoreX shore) && (isLoadX load)) && (isMinuteX minute)) w (h.rd 0 24) (h.rd 1 112) (h.rd 2 103) (h.rd 3 105) (h.rd 4 60) (h.ft 5 5) (h.ft 6 4) (h.ft 7 3) (h.ft 10 2) (by simpa using hq)) (fun gMq0 => ?_)
  case' z16 => refine WPA tt_ok ?_
  case' z14 | z12 | z10 => refine H_rn tt_ok [10] ?_
  case' z15 => refine WPE (hfz.fs [12, 11, 0, 1, 2, 3, 4, 5, 6, 7, 8, 9, 10]) ?_
  case' z16 => refine ⟨rfl, (hfz.fs [12, 11, 0, 1, 2, 3, 4, 5, 6, 7, 8, 9, 10]), ?_⟩
  case' z16 | z14 | z12 | z10 => refine H_stp 11 fun hfz cx' hx1 hx2 => ?_
  case' z15 => refine H_rn tt_ok [12, 13, 14] ?_
  case' z16 | z14 | z12 | z10 => refine CALLMAP 45 [.g (xQ b), .s (.bool (((isShoreX shore) && (isLoadX load)) && (isMinuteX minute)))] (fkL b.fw) fkKey fkVal (fun gMq0 => .t [(true, (xR b gMq0)), (false, [.int .i64 (errX b (((isShoreX shore) && (isLoadX load)) && (isMinuteX minute)))])]) (by kernel_rfl) (goes_of (by kernel_rfl)) (fun _ => (by kernel_rfl)) (fun _ => (by kernel_rfl)) (fun _ n nq1 h => (AV.c_congr (okB_sound (by kernel_rfl)) h).symm) (fun nV w h => askedX_yes (nV 0) (nV 1) (nV 2) (nV 3) (nV 4) b (((isShoreX shore) && (isLoadX load)) && (isMinuteX minute)) w (h.rd 0 24) (h.rd 1 112) (h.rd 2 103) (h.rd 3 105) (h.rd 4 60) (h.ft 5 5) (h.ft 6 4) (h.ft 7 3) (h.ft 10 2) (by simpa using hq)) (fun gMq0 => ?_)
  case' z15 => refine H_stp 15 fun hfz cx' hx1 hx2 => ?_
  case' z16 | z14 | z12 | z10 => refine WPE (hfz.fs [12, 11, 0, 1, 2, 3, 4, 5, 6, 7, 8, 9, 10]) ?_
  case' z15 => refine WPA tt_ok ?_
  case' z16 | z14 | z12 | z10 => refine H_rn tt_ok [12, 13, 14] ?_
  case' z15 => refine ⟨rfl, (hfz.fs [12, 11, 0, 1, 2, 3, 4, 5, 6, 7, 8, 9, 10]), ?_⟩
  all_goals (refine H_stp 16 fun hfz cx' hx1 hx2 => ?_; refine WPA tt_ok ?_; refine ⟨rfl, (hfz.fs [12, 11, 0, 1, 2, 3, 4, 5, 6, 7, 8, 9, 10]), ?_⟩; refine H_rn tt_ok [17] ?_; refine H_done (by kernel_rfl) ?_)
  case' z16 | z14 | z12 | z10 => exact ⟨gMq0, Le_ren [(14, 13), (13, 14)] (by repeat (first | exact trivial | refine ⟨by kernel_rfl, ?_⟩)) ⟨by kernel_rfl, rfl, by kernel_rfl, by kernel_rfl, rfl, by kernel_rfl, by kernel_rfl, rfl, by kernel_rfl, by kernel_rfl, rfl, by kernel_rfl, by kernel_rfl, rfl, by kernel_rfl, by kernel_rfl, rfl, by kernel_rfl, trivial⟩ (by kernel_rfl) (by kernel_rfl) (rnm_id (m := 5) (by kernel_rfl)) (by show 5 ≤ 15; decide) (by kernel_rfl) (by kernel_rfl)⟩
  exact ⟨gMq0, Le_sel (ts := [13, 12, 9, 1, 2, 3]) (ids := [14, 13, 12, 11, 0, 1, 2, 3, 4, 5, 6, 7, 8, 9, 10]) (nx := 15) (by kernel_rfl)⟩
 intro gM1
 refine WP_seq (WSA tt_ok ?_)
 refine WP_cond ((errX b (((isShoreX shore) && (isLoadX load)) && (isMinuteX minute))) != 0) (by kernel_rfl) (fun h => by rw [(errX_eq hq)] at h; cases h) (fun hc2 => ?_)
 refine WP_skip ?_
 refine WSR tt_ok 6 ?_
 refine CAL 84 [.g (xR b gM1), .g [.int .i64 shore, .int .i64 minute], .s (.int .i64 load), .g [.v (.func (.func 85) #[] #[])]] (.t [(false, [.int .i64 (firstU b (⟨shore, minute⟩ : (Int × Int)) load).1]), (false, [.bool (firstU b (⟨shore, minute⟩ : (Int × Int)) load).2])]) [] (fun _ nV w h => firstU_calls (nV 0) (nV 1) (nV 2) (nV 3) (nV 4) gM1 b (⟨shore, minute⟩ : (Int × Int)) load w (h.rd 0 24) (h.rd 1 112) (h.rd 2 103) (h.rd 3 105) (h.rd 4 60) (h.ents (13, mapE gM1 (fkL b.fw) fkKey fkVal) (fnd_mem (by kernel_rfl))).1 (h.ft 6 4) (h.ft 7 3) (h.ft 8 1) (h.ft 9 0) (h.ft 10 2) (by first | assumption | omega)) ?_
 refine WPA tt_ok ?_
 refine WP_seq (WSA tt_ok ?_)
 refine WP_cond (!(firstU b (⟨shore, minute⟩ : (Int × Int)) load).2) (by kernel_rfl) (fun hc4 => ?_) (fun hc4 => ?_)
 ·have hc4' := hc4; try simp only [bfs, ne_eq] at hc4'
  refine WSA tt_ok ?_
  refine WP_ret ?_
  exact ⟨.t [(false, [.int .i64 0]), (false, [.int .i64 4])], by kernel_rfl, fun nV w' h => ⟨by rw [show foundU b shore load minute = (0, 4) from by unfold foundU; simp only [hq, hc2, hc4, cond_true, cond_false]]; rfl, h.bel⟩⟩
 have hc4' := hc4; try simp only [bfs, ne_eq] at hc4'
 refine WP_skip ?_
 refine WSA tt_ok ?_
 refine WP_ret ?_
 exact ⟨.t [(false, [.int .i64 (firstU b (⟨shore, minute⟩ : (Int × Int)) load).1]), (false, [.int .i64 0])], by kernel_rfl, fun nV w' h => ⟨by rw [show foundU b shore load minute = ((firstU b (⟨shore, minute⟩ : (Int × Int)) load).1, 0) from by unfold foundU; simp only [hq, hc2, hc4, cond_true, cond_false]]; rfl, h.bel⟩⟩
def foundD (b : XBook) (shore : Int) (load : Int) (minute : Int) : Int × Int :=
 (bif errX b (((isShoreX shore) && (isLoadX load)) && (isMinuteX minute)) == 0 then (bif (errX b (((isShoreX shore) && (isLoadX load)) && (isMinuteX minute))) != 0 then (bif !(firstD b (⟨shore, minute⟩ : (Int × Int)) load).2 then (0, 4) else ((firstD b (⟨shore, minute⟩ : (Int × Int)) load).1, 0)) else (bif !(firstD b (⟨shore, minute⟩ : (Int × Int)) load).2 then (0, 4) else ((firstD b (⟨shore, minute⟩ : (Int × Int)) load).1, 0))) else (bif (errX b (((isShoreX shore) && (isLoadX load)) && (isMinuteX minute))) != 0 then (0, errX b (((isShoreX shore) && (isLoadX load)) && (isMinuteX minute))) else (0, errX b (((isShoreX shore) && (isLoadX load)) && (isMinuteX minute)))))
theorem foundD_calls (g0 g1 g2 g3 g4 : Value) (b : XBook) (shore : Int) (load : Int) (minute : Int) (w : World) (r0 : Reads w g0 2 b.lan.tides encSpan zSpan) (r1 : Reads w g1 3 b.lan.sounds encSound zSound) (r2 : Reads w g2 5 b.fw.ships encShip zShip) (r3 : Reads w g3 4 b.fw.sights encSight zSight) (r4 : Reads w g4 2 b.trips encTrip zTrip) (ha : AsksAt w) (hun : UnknownAt w) (hnw0 : NowhereAt w) (hla : LAsksAt w) (hsd : SidesAt w) (hxn : XNowhereAt w)  : Calls Tryd.prog 55 #[.agg ((xV g0 b g1 g2 g3 g4).toArray), iv shore, iv load, iv minute, .agg #[.func (.func 86) #[] #[]]] w fun e w' => e = .returned (.tuple #[iv (foundD b shore load minute).1, iv (foundD b shore load minute).2]) ∧ Below w.heap.size w w' := by
 cases hq : (errX b (((isShoreX shore) && (isLoadX load)) && (isMinuteX minute)) == 0)
 ·refine CW tt_ok [g0, g1, g2, g3, g4] 5 [.g (xQ b), .s (.int .i64 shore), .s (.int .i64 load), .s (.int .i64 minute), .g [.v (.func (.func 86) #[] #[])]] (roX b ((5, .pf AsksAt (· = 5)) :: hp5)) 11 Tryd.func55 rfl rfl rfl (by simp [r0.one, r1.one, r2.one, r3.one, r4.one]) ⟨ro_in r0, ro_in r1, ro_in r2, ro_in r3, ro_in r4, pf_in ha, pf_in hun, pf_in hnw0, pf_in hla, pf_in hsd, pf_in hxn, trivial⟩ ?_
  have hl0 := Reads.len r0
  have hl1 := Reads.len r1
  have hl2 := Reads.len r2
  have hl3 := Reads.len r3
  have hl4 := Reads.len r4
  refine WSA tt_ok ?_
  refine WP_seq (WP_toX (σ := Unit) (fun _ => ⟨47, [(13, [], .s (.int .i64 (errX b (((isShoreX shore) && (isLoadX load)) && (isMinuteX minute))))), (12, [], .s (.p 13 0)), (9, [], .s (.p 12 0)), (1, [], .s (.int .i64 shore)), (2, [], .s (.int .i64 load)), (3, [], .s (.int .i64 minute))], ((13, .box 78 zX) :: (12, .box 95 [.v (.func (.func 86) #[] #[])]) :: (11, .box 37 (xQ b)) :: (roX b ((5, .pf AsksAt (· = 5)) :: hp5))), 14, []⟩) ?_ ?_)
  ·refine WP_drawH [] (by kernel_rfl) (by kernel_rfl) ?_
   refine H_rn tt_ok [0, 1] ?_
   refine H_tw 2 15 (fun hfz cx' hx1 hx2 => ?z1) (fun hfz cx' hx1 hx2 => ?z2)
   case' z1 => refine CAL 46 [.s (.int .i64 shore)] (.s (.bool (isShoreX shore))) [] (fun hG nV w h => isShoreX_calls  shore w  ) ?_
   case' z2 => refine WPA tt_ok ?_
   case' z1 => refine WPE (hfz.fs [12, 11, 0, 1, 2, 3, 4, 5, 6, 7, 8, 9, 10]) ?_
   case' z2 => refine ⟨rfl, (hfz.fs [12, 11, 0, 1, 2, 3, 4, 5, 6, 7, 8, 9, 10]), ?_⟩
   case' z1 => refine H_rn tt_ok [3, 4] ?_
   case' z2 => refine H_stp 2 fun hfz cx' hx1 hx2 => ?_
   case' z1 => refine H_tw 5 15 (fun hfz cx' hx1 hx2 => ?z3) (fun hfz cx' hx1 hx2 => ?z4)
   case' z2 => refine CAL 46 [.s (.int .i64 shore)] (.s (.bool (isShoreX shore))) [] (fun hG nV w h => isShoreX_calls  shore w  ) ?_
   case' z3 => refine CAL 47 [.s (.int .i64 load)] (.s (.bool (isLoadX load))) [((isShoreX shore), true)] (fun hG nV w h => isLoadX_calls  load w  ) ?_
   case' z3 | z2 => refine WPE (hfz.fs [12, 11, 0, 1, 2, 3, 4, 5, 6, 7, 8, 9, 10]) ?_
   case' z4 => refine WPA tt_ok ?_; refine ⟨rfl, (hfz.fs [12, 11, 0, 1, 2, 3, 4, 5, 6, 7, 8, 9, 10]), ?_⟩
   case' z2 => refine H_rn tt_ok [3, 4] ?_
   case' z4 | z2 => refine H_stp 5 fun hfz cx' hx1 hx2 => ?_
   case' z3 => refine H_rn tt_ok [6, 7, 8] ?_
   case' z4 | z2 => refine CAL 47 [.s (.int .i64 load)] (.s (.bool (isLoadX load))) [((isShoreX shore), true)] (fun hG nV w h => isLoadX_calls  load w  ) ?_
   case' z3 => refine H_tw 9 15 (fun hfz cx' hx1 hx2 => ?z5) (fun hfz cx' hx1 hx2 => ?z6)
   case' z4 | z2 => refine WPE (hfz.fs [12, 11, 0, 1, 2, 3, 4, 5, 6, 7, 8, 9, 10]) ?_
   case' z5 => refine CAL 48 [.s (.int .i64 minute)] (.s (.bool (isMinuteX minute))) [((isShoreX shore) && (isLoadX load), true)] (fun hG nV w h => isMinuteX_calls  minute w  ) ?_
   case' z6 => refine WPA tt_ok ?_
   case' z4 | z2 => refine H_rn tt_ok [6, 7, 8] ?_
   case' z5 => refine WPE (hfz.fs [12, 11, 0, 1, 2, 3, 4, 5, 6, 7, 8, 9, 10]) ?_
   case' z6 => refine ⟨rfl, (hfz.fs [12, 11, 0, 1, 2, 3, 4, 5, 6, 7, 8, 9, 10]), ?_⟩
   case' z6 | z4 | z2 => refine H_stp 9 fun hfz cx' hx1 hx2 => ?_
   case' z5 => refine H_rn tt_ok [10] ?_
   case' z6 | z4 | z2 => refine CAL 48 [.s (.int .i64 minute)] (.s (.bool (isMinuteX minute))) [((isShoreX shore) && (isLoadX load), true)] (fun hG nV w h => isMinuteX_calls  minute w  ) ?_
   case' z5 => refine H_tw 11 15 (fun hfz cx' hx1 hx2 => ?z7) (fun hfz cx' hx1 hx2 => ?z8)
   case' z6 | z4 | z2 => refine WPE (hfz.fs [12, 11, 0, 1, 2, 3, 4, 5, 6, 7, 8, 9, 10]) ?_
   case' z7 => refine CAL 45 [.g (xQ b), .s (.bool (((isShoreX shore) && (isLoadX load)) && (isMinuteX minute)))] (.t [(true, zX), (false, [.int .i64 (errX b (((isShoreX shore) && (isLoadX load)) && (isMinuteX minute)))])]) [] (fun _ nV w h => askedX_no (nV 0) (nV 1) (nV 2) (nV 3) (nV 4) b (((isShoreX shore) && (isLoadX load)) && (isMinuteX minute)) w (h.rd 0 24) (h.rd 1 112) (h.rd 2 103) (h.rd 3 105) (h.rd 4 60) (h.ft 5 5) (h.ft 6 4) (h.ft 7 3) (h.ft 10 2) hq) ?_
   case' z8 => refine WPA tt_ok ?_
   case' z6 | z4 | z2 => refine H_rn tt_ok [10] ?_
   case' z7 => refine WPE (hfz.fs [12, 11, 0, 1, 2, 3, 4, 5, 6, 7, 8, 9, 10]) ?_
   case' z8 => refine ⟨rfl, (hfz.fs [12, 11, 0, 1, 2, 3, 4, 5, 6, 7, 8, 9, 10]), ?_⟩
   case' z8 | z6 | z4 | z2 => refine H_stp 11 fun hfz cx' hx1 hx2 => ?_
   case' z7 => refine H_rn tt_ok [12, 13, 14] ?_
   case' z8 | z6 | z4 | z2 => refine CAL 45 [.g (xQ b), .s (.bool (((isShoreX shore) && (isLoadX load)) && (isMinuteX minute)))] (.t [(true, zX), (false, [.int .i64 (errX b (((isShoreX shore) && (isLoadX load)) && (isMinuteX minute)))])]) [] (fun _ nV w h => askedX_no (nV 0) (nV 1) (nV 2) (nV 3) (nV 4) b (((isShoreX shore) && (isLoadX load)) && (isMinuteX minute)) w (h.rd 0 24) (h.rd 1 112) (h.rd 2 103) (h.rd 3 105) (h.rd 4 60) (h.ft 5 5) (h.ft 6 4) (h.ft 7 3) (h.ft 10 2) hq) ?_
   case' z7 => refine H_stp 15 fun hfz cx' hx1 hx2 => ?_
   case' z8 | z6 | z4 | z2 => refine WPE (hfz.fs [12, 11, 0, 1, 2, 3, 4, 5, 6, 7, 8, 9, 10]) ?_
   case' z7 => refine WPA tt_ok ?_
   case' z8 | z6 | z4 | z2 => refine H_rn tt_ok [12, 13, 14] ?_
   case' z7 => refine ⟨rfl, (hfz.fs [12, 11, 0, 1, 2, 3, 4, 5, 6, 7, 8, 9, 10]), ?_⟩
   all_goals (refine H_stp 16 fun hfz cx' hx1 hx2 => ?_; refine WPA tt_ok ?_; refine ⟨rfl, (hfz.fs [12, 11, 0, 1, 2, 3, 4, 5, 6, 7, 8, 9, 10]), ?_⟩; refine H_rn tt_ok [17] ?_; refine H_done (by kernel_rfl) ?_; exact ⟨(), Le_sel (ts := [13, 12, 9, 1, 2, 3]) (ids := [13, 12, 11, 0, 1, 2, 3, 4, 5, 6, 7, 8, 9, 10]) (nx := 14) (by kernel_rfl)⟩)
  intro _
  refine WP_seq (WSA tt_ok ?_)
  refine WP_cond ((errX b (((isShoreX shore) && (isLoadX load)) && (isMinuteX minute))) != 0) (by kernel_rfl) (fun hc1 => ?_) (fun h => by rw [(errX_ne hq)] at h; cases h)
  refine WSA tt_ok ?_
  refine WP_ret ?_
  exact ⟨.t [(false, [.int .i64 0]), (false, [.int .i64 (errX b (((isShoreX shore) && (isLoadX load)) && (isMinuteX minute)))])], by kernel_rfl, fun nV w' h => ⟨by rw [show foundD b shore load minute = (0, errX b (((isShoreX shore) && (isLoadX load)) && (isMinuteX minute))) from by unfold foundD; simp only [hq, hc1, cond_true, cond_false]]; rfl, h.bel⟩⟩
 have hqe : errX b (((isShoreX shore) && (isLoadX load)) && (isMinuteX minute)) = 0 := by simpa using hq
 obtain ⟨hc01, hc02, hc03⟩ := errX_ok.1 hqe
 have hvX := checkX_valid.1 hc01
 have he := hvX.each.1
 have hsh := hvX.shore
 have htu := hvX.turn
 have hnt := hvX.nt
 have hcr := hvX.fw.cr
 refine CW tt_ok [g0, g1, g2, g3, g4] 5 [.g (xQ b), .s (.int .i64 shore), .s (.int .i64 load), .s (.int .i64 minute), .g [.v (.func (.func 86) #[] #[])]] (roX b ((5, .pf AsksAt (· = 5)) :: hp5)) 11 Tryd.func55 rfl rfl rfl (by simp [r0.one, r1.one, r2.one, r3.one, r4.one]) ⟨ro_in r0, ro_in r1, ro_in r2, ro_in r3, ro_in r4, pf_in ha, pf_in hun, pf_in hnw0, pf_in hla, pf_in hsd, pf_in hxn, trivial⟩ ?_
 have hl0 := Reads.len r0
 have hl1 := Reads.len r1
 have hl2 := Reads.len r2
 have hl3 := Reads.len r3
 have hl4 := Reads.len r4
 refine WSA tt_ok ?_
 refine WP_seq (WP_toX (σ := Nat) (fun gM1 => ⟨47, [(13, [], .s (.int .i64 (errX b (((isShoreX shore) && (isLoadX load)) && (isMinuteX minute))))), (12, [], .s (.p 14 0)), (9, [], .s (.p 12 0)), (1, [], .s (.int .i64 shore)), (2, [], .s (.int .i64 load)), (3, [], .s (.int .i64 minute))], ((14, .box 78 (xR b gM1)) :: (13, mapE gM1 (fkL b.fw) fkKey fkVal) :: (12, .box 95 [.v (.func (.func 86) #[] #[])]) :: (11, .box 37 (xQ b)) :: (roX b ((5, .pf AsksAt (· = 5)) :: hp5))), 15, []⟩) ?_ ?_)
 ·refine WP_drawH [] (by kernel_rfl) (by kernel_rfl) ?_
  refine H_rn tt_ok [0, 1] ?_
  refine H_tw 2 15 (fun hfz cx' hx1 hx2 => ?z9) (fun hfz cx' hx1 hx2 => ?z10)
  case' z9 => refine CAL 46 [.s (.int .i64 shore)] (.s (.bool (isShoreX shore))) [] (fun hG nV w h => isShoreX_calls  shore w  ) ?_
  case' z10 => refine WPA tt_ok ?_
  case' z9 => refine WPE (hfz.fs [12, 11, 0, 1, 2, 3, 4, 5, 6, 7, 8, 9, 10]) ?_
  case' z10 => refine ⟨rfl, (hfz.fs [12, 11, 0, 1, 2, 3, 4, 5, 6, 7, 8, 9, 10]), ?_⟩
  case' z9 => refine H_rn tt_ok [3, 4] ?_
  case' z10 => refine H_stp 2 fun hfz cx' hx1 hx2 => ?_
  case' z9 => refine H_tw 5 15 (fun hfz cx' hx1 hx2 => ?z11) (fun hfz cx' hx1 hx2 => ?z12)
  case' z10 => refine CAL 46 [.s (.int .i64 shore)] (.s (.bool (isShoreX shore))) [] (fun hG nV w h => isShoreX_calls  shore w  ) ?_
  case' z11 => refine CAL 47 [.s (.int .i64 load)] (.s (.bool (isLoadX load))) [((isShoreX shore), true)] (fun hG nV w h => isLoadX_calls  load w  ) ?_
  case' z11 | z10 => refine WPE (hfz.fs [12, 11, 0, 1, 2, 3, 4, 5, 6, 7, 8, 9, 10]) ?_
  case' z12 => refine WPA tt_ok ?_; refine ⟨rfl, (hfz.fs [12, 11, 0, 1, 2, 3, 4, 5, 6, 7, 8, 9, 10]), ?_⟩
  case' z10 => refine H_rn tt_ok [3, 4] ?_
  case' z12 | z10 => refine H_stp 5 fun hfz cx' hx1 hx2 => ?_
  case' z11 => refine H_rn tt_ok [6, 7, 8] ?_
  case' z12 | z10 => refine CAL 47 [.s (.int .i64 load)] (.s (.bool (isLoadX load))) [((isShoreX shore), true)] (fun hG nV w h => isLoadX_calls  load w  ) ?_
  case' z11 => refine H_tw 9 15 (fun hfz cx' hx1 hx2 => ?z13) (fun hfz cx' hx1 hx2 => ?z14)
  case' z12 | z10 => refine WPE (hfz.fs [12, 11, 0, 1, 2, 3, 4, 5, 6, 7, 8, 9, 10]) ?_
  case' z13 => refine CAL 48 [.s (.int .i64 minute)] (.s (.bool (isMinuteX minute))) [((isShoreX shore) && (isLoadX load), true)] (fun hG nV w h => isMinuteX_calls  minute w  ) ?_
  case' z14 => refine WPA tt_ok ?_
  case' z12 | z10 => refine H_rn tt_ok [6, 7, 8] ?_
  case' z13 => refine WPE (hfz.fs [12, 11, 0, 1, 2, 3, 4, 5, 6, 7, 8, 9, 10]) ?_
  case' z14 => refine ⟨rfl, (hfz.fs [12, 11, 0, 1, 2, 3, 4, 5, 6, 7, 8, 9, 10]), ?_⟩
  case' z14 | z12 | z10 => refine H_stp 9 fun hfz cx' hx1 hx2 => ?_
  case' z13 => refine H_rn tt_ok [10] ?_
  case' z14 | z12 | z10 => refine CAL 48 [.s (.int .i64 minute)] (.s (.bool (isMinuteX minute))) [((isShoreX shore) && (isLoadX load), true)] (fun hG nV w h => isMinuteX_calls  minute w  ) ?_
  case' z13 => refine H_tw 11 15 (fun hfz cx' hx1 hx2 => ?z15) (fun hfz cx' hx1 hx2 => ?z16)
  case' z14 | z12 | z10 => refine WPE (hfz.fs [12, 11, 0, 1, 2, 3, 4, 5, 6, 7, 8, 9, 10]) ?_
  case' z15 => refine CALLMAP 45 [.g (xQ b), .s (.bool (((isShoreX shore) && (isLoadX load)) && (isMinuteX minute)))] (fkL b.fw) fkKey fkVal (fun gMq0 => .t [(true, (xR b gMq0)), (false, [.int .i64 (errX b (((isShoreX shore) && (isLoadX load)) && (isMinuteX minute)))])]) (by kernel_rfl) (goes_of (by kernel_rfl)) (fun _ => (by kernel_rfl)) (fun _ => (by kernel_rfl)) (fun _ n nq1 h => (AV.c_congr (okB_sound (by kernel_rfl)) h).symm) (fun nV w h => askedX_yes (nV 0) (nV 1) (nV 2) (nV 3) (nV 4) b (((isShoreX shore) && (isLoadX load)) && (isMinuteX minute)) w (h.rd 0 24) (h.rd 1 112) (h.rd 2 103) (h.rd 3 105) (h.rd 4 60) (h.ft 5 5) (h.ft 6 4) (h.ft 7 3) (h.ft 10 2) (by simpa using hq)) (fun gMq0 => ?_)
  case' z16 => refine WPA tt_ok ?_
  case' z14 | z12 | z10 => refine H_rn tt_ok [10] ?_
  case' z15 => refine WPE (hfz.fs [12, 11, 0, 1, 2, 3, 4, 5, 6, 7, 8, 9, 10]) ?_
  case' z16 => refine ⟨rfl, (hfz.fs [12, 11, 0, 1, 2, 3, 4, 5, 6, 7, 8, 9, 10]), ?_⟩
  case' z16 | z14 | z12 | z10 => refine H_stp 11 fun hfz cx' hx1 hx2 => ?_
  case' z15 => refine H_rn tt_ok [12, 13, 14] ?_
  case' z16 | z14 | z12 | z10 => refine CALLMAP 45 [.g (xQ b), .s (.bool (((isShoreX shore) && (isLoadX load)) && (isMinuteX minute)))] (fkL b.fw) fkKey fkVal (fun gMq0 => .t [(true, (xR b gMq0)), (false, [.int .i64 (errX b (((isShoreX shore) && (isLoadX load)) && (isMinuteX minute)))])]) (by kernel_rfl) (goes_of (by kernel_rfl)) (fun _ => (by kernel_rfl)) (fun _ => (by kernel_rfl)) (fun _ n nq1 h => (AV.c_congr (okB_sound (by kernel_rfl)) h).symm) (fun nV w h => askedX_yes (nV 0) (nV 1) (nV 2) (nV 3) (nV 4) b (((isShoreX shore) && (isLoadX load)) && (isMinuteX minute)) w (h.rd 0 24) (h.rd 1 112) (h.rd 2 103) (h.rd 3 105) (h.rd 4 60) (h.ft 5 5) (h.ft 6 4) (h.ft 7 3) (h.ft 10 2) (by simpa using hq)) (fun gMq0 => ?_)
  case' z15 => refine H_stp 15 fun hfz cx' hx1 hx2 => ?_
  case' z16 | z14 | z12 | z10 => refine WPE (hfz.fs [12, 11, 0, 1, 2, 3, 4, 5, 6, 7, 8, 9, 10]) ?_
  case' z15 => refine WPA tt_ok ?_
  case' z16 | z14 | z12 | z10 => refine H_rn tt_ok [12, 13, 14] ?_
  case' z15 => refine ⟨rfl, (hfz.fs [12, 11, 0, 1, 2, 3, 4, 5, 6, 7, 8, 9, 10]), ?_⟩
  all_goals (refine H_stp 16 fun hfz cx' hx1 hx2 => ?_; refine WPA tt_ok ?_; refine ⟨rfl, (hfz.fs [12, 11, 0, 1, 2, 3, 4, 5, 6, 7, 8, 9, 10]), ?_⟩; refine H_rn tt_ok [17] ?_; refine H_done (by kernel_rfl) ?_)
  case' z16 | z14 | z12 | z10 => exact ⟨gMq0, Le_ren [(14, 13), (13, 14)] (by repeat (first | exact trivial | refine ⟨by kernel_rfl, ?_⟩)) ⟨by kernel_rfl, rfl, by kernel_rfl, by kernel_rfl, rfl, by kernel_rfl, by kernel_rfl, rfl, by kernel_rfl, by kernel_rfl, rfl, by kernel_rfl, by kernel_rfl, rfl, by kernel_rfl, by kernel_rfl, rfl, by kernel_rfl, trivial⟩ (by kernel_rfl) (by kernel_rfl) (rnm_id (m := 5) (by kernel_rfl)) (by show 5 ≤ 15; decide) (by kernel_rfl) (by kernel_rfl)⟩
  exact ⟨gMq0, Le_sel (ts := [13, 12, 9, 1, 2, 3]) (ids := [14, 13, 12, 11, 0, 1, 2, 3, 4, 5, 6, 7, 8, 9, 10]) (nx := 15) (by kernel_rfl)⟩
 intro gM1
 refine WP_seq (WSA tt_ok ?_)
 refine WP_cond ((errX b (((isShoreX shore) && (isLoadX load)) && (isMinuteX minute))) != 0) (by kernel_rfl) (fun h => by rw [(errX_eq hq)] at h; cases h) (fun hc2 => ?_)
 refine WP_skip ?_
 refine WSR tt_ok 6 ?_
 refine CAL 84 [.g (xR b gM1), .g [.int .i64 shore, .int .i64 minute], .s (.int .i64 load), .g [.v (.func (.func 86) #[] #[])]] (.t [(false, [.int .i64 (firstD b (⟨shore, minute⟩ : (Int × Int)) load).1]), (false, [.bool (firstD b (⟨shore, minute⟩ : (Int × Int)) load).2])]) [] (fun _ nV w h => firstD_calls (nV 0) (nV 1) (nV 2) (nV 3) (nV 4) gM1 b (⟨shore, minute⟩ : (Int × Int)) load w (h.rd 0 24) (h.rd 1 112) (h.rd 2 103) (h.rd 3 105) (h.rd 4 60) (h.ents (13, mapE gM1 (fkL b.fw) fkKey fkVal) (fnd_mem (by kernel_rfl))).1 (h.ft 6 4) (h.ft 7 3) (h.ft 8 1) (h.ft 9 0) (h.ft 10 2) (by first | assumption | omega)) ?_
 refine WPA tt_ok ?_
 refine WP_seq (WSA tt_ok ?_)
 refine WP_cond (!(firstD b (⟨shore, minute⟩ : (Int × Int)) load).2) (by kernel_rfl) (fun hc4 => ?_) (fun hc4 => ?_)
 ·have hc4' := hc4; try simp only [bfs, ne_eq] at hc4'
  refine WSA tt_ok ?_
  refine WP_ret ?_
  exact ⟨.t [(false, [.int .i64 0]), (false, [.int .i64 4])], by kernel_rfl, fun nV w' h => ⟨by rw [show foundD b shore load minute = (0, 4) from by unfold foundD; simp only [hq, hc2, hc4, cond_true, cond_false]]; rfl, h.bel⟩⟩
 have hc4' := hc4; try simp only [bfs, ne_eq] at hc4'
 refine WP_skip ?_
 refine WSA tt_ok ?_
 refine WP_ret ?_
 exact ⟨.t [(false, [.int .i64 (firstD b (⟨shore, minute⟩ : (Int × Int)) load).1]), (false, [.int .i64 0])], by kernel_rfl, fun nV w' h => ⟨by rw [show foundD b shore load minute = ((firstD b (⟨shore, minute⟩ : (Int × Int)) load).1, 0) from by unfold foundD; simp only [hq, hc2, hc4, cond_true, cond_false]]; rfl, h.bel⟩⟩
theorem wayU_calls (w : World) : Calls Tryd.prog 56 #[] w fun e w' => e = .returned (.agg #[.func (.func 85) #[] #[]]) ∧ Below w.heap.size w w' := by
 refine C0 tt_ok [] Tryd.func56 rfl rfl rfl ?_
 refine WSA tt_ok ?_
 refine WSA tt_ok ?_
 refine WP_ret ?_
 exact ⟨.g [.v (.func (.func 85) #[] #[])], by kernel_rfl, fun nV w' h => ⟨rfl, h.bel⟩⟩
theorem wayD_calls (w : World) : Calls Tryd.prog 57 #[] w fun e w' => e = .returned (.agg #[.func (.func 86) #[] #[]]) ∧ Below w.heap.size w w' := by
 refine C0 tt_ok [] Tryd.func57 rfl rfl rfl ?_
 refine WSA tt_ok ?_
 refine WSA tt_ok ?_
 refine WP_ret ?_
 exact ⟨.g [.v (.func (.func 86) #[] #[])], by kernel_rfl, fun nV w' h => ⟨rfl, h.bel⟩⟩
def nextX (b : XBook) (shore : Int) (load : Int) (frm : Int) : Int × Int :=
 ((foundU b shore load frm).1, (foundU b shore load frm).2)
theorem nextX_calls (g0 g1 g2 g3 g4 : Value) (b : XBook) (shore : Int) (load : Int) (frm : Int) (w : World) (r0 : Reads w g0 2 b.lan.tides encSpan zSpan) (r1 : Reads w g1 3 b.lan.sounds encSound zSound) (r2 : Reads w g2 5 b.fw.ships encShip zShip) (r3 : Reads w g3 4 b.fw.sights encSight zSight) (r4 : Reads w g4 2 b.trips encTrip zTrip) (ha : AsksAt w) (hun : UnknownAt w) (hnw0 : NowhereAt w) (hla : LAsksAt w) (hsd : SidesAt w) (hxn : XNowhereAt w) : Calls Tryd.prog 19 #[.agg ((xV g0 b g1 g2 g3 g4).toArray), iv shore, iv load, iv frm] w fun e w' => e = .returned (.tuple #[iv (nextX b shore load frm).1, iv (nextX b shore load frm).2]) ∧ Below w.heap.size w w' := by
 refine CW tt_ok [g0, g1, g2, g3, g4] 5 [.g (xQ b), .s (.int .i64 shore), .s (.int .i64 load), .s (.int .i64 frm)] (roX b ((5, .pf AsksAt (· = 5)) :: hp5)) 11 Tryd.func19 rfl rfl rfl (by simp [r0.one, r1.one, r2.one, r3.one, r4.one]) ⟨ro_in r0, ro_in r1, ro_in r2, ro_in r3, ro_in r4, pf_in ha, pf_in hun, pf_in hnw0, pf_in hla, pf_in hsd, pf_in hxn, trivial⟩ ?_
 have hl0 := Reads.len r0
 have hl1 := Reads.len r1
 have hl2 := Reads.len r2
 have hl3 := Reads.len r3
 have hl4 := Reads.len r4
 refine WSA tt_ok ?_
 refine WP_seq (WP_draw (by kernel_rfl) (by kernel_rfl) ?_)
 refine WPQ_run tt_ok 4 (by kernel_rfl) ?_
 refine QCALL 56 [] (.g [.v (.func (.func 85) #[] #[])]) [] (by kernel_rfl) (goes_of (by kernel_rfl)) (by kernel_rfl) (by kernel_rfl) (fun _ nV w h => wayU_calls w) ?_
 refine QCALL 55 [.g (xQ b), .s (.int .i64 shore), .s (.int .i64 load), .s (.int .i64 frm), .g [.v (.func (.func 85) #[] #[])]] (.t [(false, [.int .i64 (foundU b shore load frm).1]), (false, [.int .i64 (foundU b shore load frm).2])]) [] (by kernel_rfl) (goes_of (by kernel_rfl)) (by kernel_rfl) (by kernel_rfl) (fun _ nV w h => foundU_calls (nV 0) (nV 1) (nV 2) (nV 3) (nV 4) b shore load frm w (h.rd 0 24) (h.rd 1 112) (h.rd 2 103) (h.rd 3 105) (h.rd 4 60) (h.ft 5 5) (h.ft 6 4) (h.ft 7 3) (h.ft 8 1) (h.ft 9 0) (h.ft 10 2) ) ?_
 refine WPQ_all tt_ok (by kernel_rfl) ?_
 refine WP_ret ?_
 exact ⟨.t [(false, [.int .i64 (foundU b shore load frm).1]), (false, [.int .i64 (foundU b shore load frm).2])], by kernel_rfl, fun nV w' h => ⟨by rw [show nextX b shore load frm = ((foundU b shore load frm).1, (foundU b shore load frm).2) from rfl]; rfl, h.bel⟩⟩
def lastX (b : XBook) (shore : Int) (load : Int) (til : Int) : Int × Int :=
 ((foundD b shore load til).1, (foundD b shore load til).2)
theorem lastX_calls (g0 g1 g2 g3 g4 : Value) (b : XBook) (shore : Int) (load : Int) (til : Int) (w : World) (r0 : Reads w g0 2 b.lan.tides encSpan zSpan) (r1 : Reads w g1 3 b.lan.sounds encSound zSound) (r2 : Reads w g2 5 b.fw.ships encShip zShip) (r3 : Reads w g3 4 b.fw.sights encSight zSight) (r4 : Reads w g4 2 b.trips encTrip zTrip) (ha : AsksAt w) (hun : UnknownAt w) (hnw0 : NowhereAt w) (hla : LAsksAt w) (hsd : SidesAt w) (hxn : XNowhereAt w) : Calls Tryd.prog 22 #[.agg ((xV g0 b g1 g2 g3 g4).toArray), iv shore, iv load, iv til] w fun e w' => e = .returned (.tuple #[iv (lastX b shore load til).1, iv (lastX b shore load til).2]) ∧ Below w.heap.size w w' := by
 refine CW tt_ok [g0, g1, g2, g3, g4] 5 [.g (xQ b), .s (.int .i64 shore), .s (.int .i64 load), .s (.int .i64 til)] (roX b ((5, .pf AsksAt (· = 5)) :: hp5)) 11 Tryd.func22 rfl rfl rfl (by simp [r0.one, r1.one, r2.one, r3.one, r4.one]) ⟨ro_in r0, ro_in r1, ro_in r2, ro_in r3, ro_in r4, pf_in ha, pf_in hun, pf_in hnw0, pf_in hla, pf_in hsd, pf_in hxn, trivial⟩ ?_
 have hl0 := Reads.len r0
 have hl1 := Reads.len r1
 have hl2 := Reads.len r2
 have hl3 := Reads.len r3
 have hl4 := Reads.len r4
 refine WSA tt_ok ?_
 refine WP_seq (WP_draw (by kernel_rfl) (by kernel_rfl) ?_)
 refine WPQ_run tt_ok 4 (by kernel_rfl) ?_
 refine QCALL 57 [] (.g [.v (.func (.func 86) #[] #[])]) [] (by kernel_rfl) (goes_of (by kernel_rfl)) (by kernel_rfl) (by kernel_rfl) (fun _ nV w h => wayD_calls w) ?_
 refine QCALL 55 [.g (xQ b), .s (.int .i64 shore), .s (.int .i64 load), .s (.int .i64 til), .g [.v (.func (.func 86) #[] #[])]] (.t [(false, [.int .i64 (foundD b shore load til).1]), (false, [.int .i64 (foundD b shore load til).2])]) [] (by kernel_rfl) (goes_of (by kernel_rfl)) (by kernel_rfl) (by kernel_rfl) (fun _ nV w h => foundD_calls (nV 0) (nV 1) (nV 2) (nV 3) (nV 4) b shore load til w (h.rd 0 24) (h.rd 1 112) (h.rd 2 103) (h.rd 3 105) (h.rd 4 60) (h.ft 5 5) (h.ft 6 4) (h.ft 7 3) (h.ft 8 1) (h.ft 9 0) (h.ft 10 2) ) ?_
 refine WPQ_all tt_ok (by kernel_rfl) ?_
 refine WP_ret ?_
 exact ⟨.t [(false, [.int .i64 (foundD b shore load til).1]), (false, [.int .i64 (foundD b shore load til).2])], by kernel_rfl, fun nV w' h => ⟨by rw [show lastX b shore load til = ((foundD b shore load til).1, (foundD b shore load til).2) from rfl]; rfl, h.bel⟩⟩
end Go.Proofs.YtpfglknbkpcfnaaDoor.X
namespace Go.Proofs.YtpfglknbkpcfnaaDoor.Eng
open Go Go.RowKit
section
variable {cx : Cx} {s : AS}
theorem HSat.low {n : Vn} {w : World} {b : Bool} {m : Nat} (h : HSat cx n s w) (hm : m ≤ s.nx) : HSat ⟨cx.w0, cx.ok, n, m, b⟩ n s w := ⟨h.fr, fun _ _ => rfl, hm, h.one, h.ents, h.oks, h.sep, h.lt, h.ids⟩
end
end Go.Proofs.YtpfglknbkpcfnaaDoor.Eng
